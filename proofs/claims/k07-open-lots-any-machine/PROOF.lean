import PyProof.Rows.All
import Wide.All
import OpenK.AllK
import Wide.FinOn
import HandS.ForMost
import HandS.Lambda
import HandS.EndTab
import HandS.TupAny
import HandS.TupMul
import HandS.Strs
import HandS.Conv
import HandS.DictTup
import KE.SortData
import KE.KDictSum
import PyProof.ReprRoads
import PyProof.SumWalkG
import PyProof.Rows.SetFrom
import HandS.SetFor
import KE.GoesNew
import KE.GoesEnum
import KE.KDictZip
import HandS.SetKeys
import KE.KeyNested
import KE.KDictDisplayH
import HandS.ForExc
import HandS.ExcInit
import KE.KSuper
import KE.KExcSuper
import HandS.Defaults
import HandS.MakeKwOnly
import HandS.More
import HandS.Sort
import HandS.TryMany
import HandS.ExcField
import HandS.ExcIs
import HandS.IsInst
import KE.KIsAll
import KE.KTryMore
import HandS.DictComp
import HandS.Deep
import HandS.SortInts
import HandS.Wide
import HandS.RaiseMore
import KE.KNestM
import PySem.Challenge.RW_onewitness_k07_whole_open_lots_of_any_ma
/-! ## X0a -/
set_option Elab.async false
set_option linter.all false
set_option maxRecDepth 100000
set_option maxHeartbeats 4000000
/-! own rules over the layer, part a -/
namespace Ow
open PySem PySem.Spec PyProof.Rows L2
section
variable {X : Cx}

/-- a call with one value that is a place -/
theorem Vals_one {a : Addr} {us : List Value} (r : Vals [V.ref a] us) : us = [Value.ref a] := by
  cases r with
  | cons r1 r2 =>
    cases r2
    cases r1
    rfl

/-! ### repr of data -/
def rRepr (K : PySem.W.Frag) : List V → Hp → VK → Prop := fun xs H Q =>
  ∃ (a : Addr) (d : PyData), xs = [.ref a] ∧ Dp K H (.ref a) d ∧ d.showable = true ∧ d.hasDict = false ∧ d.depth ≤ 20 ∧ d.shown.length ≤ sizeLine ∧ Q (.str d.shown) H
theorem cr_repr (hg : X.A.guards = some []) (hu : X.A.units + 64 < cLine) : CallR X (.builtin "repr") (rRepr X.K) := by
  intro pins s σ H xs us Q I r hw
  obtain ⟨a, d, e0, hd, h1, h2, h3, h4, q⟩ := hw
  subst e0
  rw [Vals_one r]
  obtain ⟨as, rd⟩ := Dp.reads I d (.ref a) (.ref a) hd rfl
  refine repr_of_reads' rd h1 (fun z => ?_) hg (by omega) (fun _ _ z => z) (fun h' u tk hk => ?_) h4
  · rw [h2] at z
    cases z
  · exact ⟨.str d.shown, H, I.kept hk, ⟨_, rfl⟩, q⟩

/-! ### sum of a tuple of ints -/
def rSumT (K : PySem.W.Frag) : List V → Hp → VK → Prop := fun xs H Q =>
  ∃ (a : Addr) (ns : List Int), xs = [.ref a] ∧ SqT K H a (ns.map V.int) ∧ Q (.int ns.sum) H
theorem preSum_list : ∀ ns : List Int, preSum (fun i => ns.getD i 0) ns.length = ns.sum := by
  have key : ∀ (ns : List Int) (k : Nat), k ≤ ns.length → preSum (fun i => ns.getD i 0) k = (ns.take k).sum := by
    intro ns k
    induction k with
    | zero => intro _; simp [preSum]
    | succ k ih =>
      intro hk
      have e : preSum (fun i => ns.getD i 0) (k + 1) = preSum (fun i => ns.getD i 0) k + ns.getD k 0 := rfl
      have hk2 : k < ns.length := by omega
      rw [e, ih (by omega), List.take_add_one, List.sum_append, List.getElem?_eq_getElem hk2]
      simp [List.getD_eq_getElem?_getD, List.getElem?_eq_getElem hk2]
  intro ns
  rw [key ns ns.length (Nat.le_refl _), List.take_length]
theorem cr_sumT (hc : X.calm = true) : CallR X (.builtin "sum") (rSumT X.K) := by
  intro pins s σ H xs us Q I r hw
  obtain ⟨a, ns, e0, hs, q⟩ := hw
  subst e0
  rw [Vals_one r]
  obtain ⟨its, rv, ht, _⟩ := I.tuple hs
  have hh := I.ok.hd hc
  have hlt : a < s.heap.objs.size := ht.lt
  have hl : its.length = ns.length := by
    have z := rv.length
    rw [List.length_map] at z
    exact z.symm
  refine call_sum_walkG (wpAny_pyIter_tuple (show s.heap.IsTuple a its.toArray from ht) ?_)
  refine ⟨s.heap.objs.size, [s.heap.objs.size, a], [s.heap.objs.size], its.toArray.size, _, _, (fun i => ns.getD i 0), rfl, Walks.tuple (A := X.A.in1) hh s.heap.objs.size a (Nat.ne_of_lt hlt) its.toArray, ?_, ?_, ?_, ?_⟩
  · exact ⟨⟨_, Heap.get?_push_size _ rfl, rfl, rfl⟩, (show s.heap.IsTuple a its.toArray from ht).push _⟩
  · intro b hb
    show b < (s.heap.push _).objs.size
    rw [Heap.size_push]
    rcases List.mem_cons.mp hb with e | hb
    · rw [e]
      exact Nat.lt_succ_self _
    · rw [List.mem_singleton.mp hb]
      exact Nat.lt_succ_of_lt hlt
  · intro i v hv
    have hv2 : its[i]? = some v := by simpa using hv
    have hi : i < its.length := (List.getElem?_eq_some_iff.mp hv2).1
    have hm : (ns.map V.int)[i]? = some (.int ns[i]) := by
      rw [List.getElem?_map, List.getElem?_eq_getElem (by omega)]
      rfl
    obtain ⟨u, e1, e2⟩ := rv.get hm
    rw [hv2] at e1
    cases e1
    obtain ⟨t, e3⟩ := e2
    refine ⟨t, ?_⟩
    rw [e3]
    show Value.int ns[i] t = Value.int (ns.getD i 0) t
    rw [List.getD_eq_getElem?_getD, List.getElem?_eq_getElem (by omega)]
    rfl
  · intro h' tk t' hk
    have e : preSum (fun i => ns.getD i 0) its.toArray.size = ns.sum := by
      rw [List.size_toArray, hl]
      exact preSum_list ns
    rw [e]
    refine ⟨.int ns.sum, H, ?_, ⟨_, rfl⟩, q⟩
    refine I.kept (t' := tk) fun b o z => hk b o (fun hm => ?_) (Heap.get?_push_of_some _ z)
    rw [List.mem_singleton.mp hm] at z
    exact Nat.lt_irrefl _ (Heap.lt_size z)

/-! ### set(list of ints) -/
def rSetL (K : PySem.W.Frag) (w : World) : List V → Hp → VK → Prop := fun xs H Q =>
  ∃ (a : Addr) (ns : List Int), xs = [.ref a] ∧ SqL K H a (ns.map V.int) ∧ ns.length ≤ 1000 ∧ ∀ (p : Addr) (S : Int → Bool) (n : Nat), H p = none → (∀ k, S k = true ↔ k ∈ ns) → n ≤ ns.length → Q (.ref p) (upd H p (SetO w p S n))
end
end Ow

/-! ## X0b -/
set_option Elab.async false
set_option linter.all false
set_option maxRecDepth 100000
set_option maxHeartbeats 4000000
/-! own rules, part b: set(list of ints) -/
namespace Ow
open PySem PySem.Spec PyProof.Rows L2
section
variable {P : Program} {w : World} {A : Around} {E : Value → Shared → Prop} {s : Shared}
/-- the empty set as it is laid -/
abbrev set0 (w : World) : Obj := { cls := .type "set", dict := none, data := .set #[] 0 (.fresh 0 0 (!w.params.followText "set-order")) }
theorem set_list_call {l : Addr} {items : Array Value} (ns : List Int) {Q : Value → Shared → Prop} (hh : A.handled = none) (hl : s.heap.IsList l items) (hit : IntsAre items.toList ns) (hb : ns.length + 1 < scanBound)
    (h : ∀ (h' : Heap) (tk c : Nat), SetR w h' s.heap.objs.size (fun j => decide (j ∈ ns)) c → c ≤ ns.length → (∀ b o, s.heap.get? b = some o → h'.get? b = some o) → Q (.ref s.heap.objs.size) { s with heap := h', toks := tk }) :
    wpAny (model P w) A (call (.type "set") [.ref l]) Q E s := by
  have many : items.size = ns.length := by
    have z := hit.length
    rwa [Array.length_toList] at z
  obtain ⟨c, tl, mro⟩ := F.called_set.mro
  have made := F.called_set.made
  have sub := F.called_set.sub
  have nty := F.called_set.notType
  have can := F.called_set.canCreate
  have tch := F.typeCall_set_1 (.ref l)
  refine wpAny_call (codeAny_of_tree ?_)
  show wpAny _ _ (callAny (.type "set") _) _ _ _
  refine wpAny_pure ⟨Code.quiet_builtin _ (by decide +kernel), codeAny_builtin F.entry_type_call ?_⟩
  rw [Around.under_plain (weight_type_call_type "set" [.ref l] []) rfl]
  repeat (any_goals (first | assumption | wp_step))
  refine codeAny_mono (code_set_led1 (.ref l) (E := E) (Q₁ := fun v s₁ => v = .ref s.heap.objs.size ∧ s₁ = { s with heap := s.heap.push (set0 w) }) ⟨rfl, rfl⟩) fun r s₁ hr => ?_
  cases r with
  | error e => exact hr
  | ok fl =>
    cases fl with
    | next => exact hr.elim
    | brk => exact hr.elim
    | cont => exact hr.elim
    | ret v =>
      obtain ⟨rfl, rfl⟩ := hr
      have at0 : (s.heap.push (set0 w)).get? s.heap.objs.size = some (set0 w) := Heap.get?_push_size _ rfl
      have ty0 : Shared.TypeIs { s with heap := s.heap.push (set0 w) } (.ref s.heap.objs.size) "set" := ⟨_, at0, rfl⟩
      have lk0 := F.called_set.init.lookup
      have bd0 := F.called_set.init.bind (.ref s.heap.objs.size)
      repeat (any_goals (first | assumption | wp_step))
      refine codeAny_mono (codeAny_call_builtin (R := wants (fun v s₂ => v = .none ∧ ∃ h' tk c, s₂ = { s with heap := h', toks := tk } ∧ SetR w h' s.heap.objs.size (fun j => decide (j ∈ ns)) c ∧ c ≤ ns.length ∧ ∀ b o, s.heap.get? b = some o → h'.get? b = some o) E)
        F.called_set.init.plain F.entry_set_init (check_set_init_1 ty0 ?_)) fun r₂ s₂ hr₂ => ?_
      · have hl1 : (s.heap.push (set0 w)).IsList l items := hl.push _
        obtain ⟨⟨ocls, odict, odata, oslots⟩, hol, hcl, nl, hdl⟩ := id hl
        simp only at hcl hdl
        subst hcl; subst hdl
        have hol' : (s.heap.push (set0 w)).get? l = some { cls := .type "list", dict := odict, data := .seq items nl, slots := oslots } := Heap.get?_push_of_some _ hol
        have n1 := F.sub_list_set
        have n2 := F.sub_list_frozenset
        have n3 : (Value.type "list" == Value.type "dict") = false := by decide
        unfold Builtin.«set.__init__» noKeywords Builtin.Frozenset.updateFrom
        generalize hPI : pyIter = PI
        wp_walk
        subst hPI
        refine wpAny_pyIter_list hl1 ?_
        refine wpAny_bind (wpAny_runValue ?_)
        have lt0 : l < s.heap.objs.size := Heap.lt_size hol
        have sz1 : (s.heap.push (set0 w)).objs.size = s.heap.objs.size + 1 := Heap.size_push ..
        have neI : l ≠ (s.heap.push (set0 w)).objs.size := by
          rw [sz1]
          exact Nat.ne_of_lt (Nat.lt_succ_of_lt lt0)
        have ninf : s.heap.objs.size ∉ [(s.heap.push (set0 w)).objs.size, l] := by
          rw [sz1]
          intro z
          rcases List.mem_cons.mp z with z | z
          · exact Nat.ne_of_lt (Nat.lt_succ_self _) z
          · exact Nat.ne_of_gt lt0 (List.mem_singleton.mp z)
        have vals : ∀ (i : Nat) (v : Value), items[i]? = some v → ∃ k t, ns[i]? = some k ∧ v = .int k t := fun i v hv => by
          have hi : i < ns.length := by
            rw [← many]
            exact (Array.getElem?_eq_some_iff.mp hv).1
          obtain ⟨t, e⟩ := IntsAre.int_at hit i v (by rw [Array.getElem?_toList]; exact hv)
          refine ⟨ns[i], t, List.getElem?_eq_getElem hi, ?_⟩
          rw [e, List.getD_eq_getElem?_getD, List.getElem?_eq_getElem hi] <;> rfl
        have hh3 : A.in1.in1.in1.handled = none := by simp [hh]
        refine set_update_ints ((Walks.list hh3 _ l neI items).toS) s.heap.objs.size ninf ns many hb vals (items.size - 0) 0 _ (by omega) (Nat.zero_le _) ⟨⟨_, Heap.get?_push_size _ rfl, rfl, rfl⟩, hl1.push _⟩ ⟨0, Nat.le_refl 0, setR_new_at (Heap.get?_push_of_some _ at0)⟩ ?_
        intro s' c' mv hc' hS'
        obtain ⟨h', g2, d', tk', os'⟩ := s'
        have eg : g2 = s.gens := mv.gens
        have ed : d' = s.drawn := mv.drawn
        have eo : os' = s.os := mv.os
        subst eg ed eo
        refine wpAny_pure ?_
        show wpAny _ _ (ret Value.none) _ _ _
        rw [many] at hc'
        refine wpAny_pure ⟨rfl, h', tk', c', rfl, hS', hc', fun b o e => mv.heap b o (fun z => ?_) (Heap.get?_push_of_some _ (Heap.get?_push_of_some _ e))⟩
        have b0 : b < s.heap.objs.size := Heap.lt_size e
        rcases List.mem_cons.mp z with z | z
        · exact Nat.ne_of_lt b0 z
        · rw [List.mem_singleton.mp z, sz1] at b0
          exact Nat.lt_irrefl _ (Nat.lt_of_succ_lt b0)
      · cases r₂ with
        | error e => exact hr₂
        | ok fl₂ =>
          cases fl₂ with
          | next => exact hr₂.elim
          | brk => exact hr₂.elim
          | cont => exact hr₂.elim
          | ret v =>
            obtain ⟨rfl, h', tk, c', rfl, hS', hc', hk'⟩ := hr₂
            repeat (any_goals (first | assumption | wp_step))
            exact h _ _ _ hS' hc' hk'
end
section
variable {X : Cx}
theorem cr_setL (hc : X.calm = true) : CallR X (.type "set") (rSetL X.K X.w) := by
  intro pins s σ H xs us Q I r hw
  obtain ⟨a, ns, e0, hs, hz, q⟩ := hw
  subst e0
  rw [Vals_one r]
  obtain ⟨its, rv, hl, _⟩ := I.list hs
  refine set_list_call ns (I.ok.hd hc) hl.isList (by simpa using rv.ints) (by unfold scanBound; omega) fun h' tk c hS hc' hk => ?_
  have new : H s.heap.objs.size = none := I.hok.fresh (Nat.le_refl _)
  exact ⟨.ref _, _, I.laid (t' := tk) (o := SetO X.w s.heap.objs.size (fun j => decide (j ∈ ns)) c) hk (Nat.le_refl _) (setO_new hS), rfl, q _ _ c new (fun k => by simp) hc'⟩
end
end Ow

/-! ## X0c -/
set_option Elab.async false
set_option linter.all false
set_option maxRecDepth 100000
set_option maxHeartbeats 4000000
/-! own rules, part c: sorted of data; sorted of a dict with tuple keys; a tuple times one -/
namespace Ow
open PySem PySem.Spec PyProof.Rows L2
/-! ### Paired and EachIs -/
theorem each_vals {β : Type} {R : V → β → Prop} : ∀ {xs : List V} {bs : List β} {us : List Value}, Paired R xs bs → Vals xs us → PySem.W.EachIs (fun u b => ∃ x, RelV x u ∧ R x b) us bs
  | _, _, _, .nil, .nil => .nil
  | _, _, _, .cons r t, .cons q v => .cons ⟨_, q, r⟩ (each_vals t v)
theorem vals_each {β : Type} {R : V → β → Prop} : ∀ {us : List Value} {bs : List β}, PySem.W.EachIs (fun u b => ∃ x, RelV x u ∧ R x b) us bs → ∃ xs, Paired R xs bs ∧ Vals xs us
  | _, _, .nil => ⟨[], .nil, .nil⟩
  | _, _, .cons ⟨x, q, r⟩ t => by
    obtain ⟨xs, h1, h2⟩ := vals_each t
    exact ⟨x :: xs, .cons r h1, .cons q h2⟩
mutual
/-- what is read stands in the heap -/
theorem reads_lt {h : Heap} : ∀ {v : Value} {d : PyData} {as : List Addr}, Reads h v d as → ∀ a ∈ as, a < h.objs.size
  | _, _, _, .none, _, z => by cases z
  | _, _, _, .bool _, _, z => by cases z
  | _, _, _, .int _ _, _, z => by cases z
  | _, _, _, .str _ _, _, z => by cases z
  | _, _, _, .list h1 _ _ r, a, z => by
    rcases List.mem_cons.mp z with e | z
    · rw [e]
      exact Heap.lt_size h1
    · exact reads_ltA r a z
  | _, _, _, .tuple _ _ _ r, a, z => reads_ltA r a z
  | _, _, _, .dict h1 _ _ r1 r2, a, z => by
    rcases List.mem_append.mp z with z | z
    · rcases List.mem_cons.mp z with e | z
      · rw [e]
        exact Heap.lt_size h1
      · exact reads_ltA r1 a z
    · exact reads_ltA r2 a z
theorem reads_ltA {h : Heap} : ∀ {vs : List Value} {ds : List PyData} {as : List Addr}, ReadsAll h vs ds as → ∀ a ∈ as, a < h.objs.size
  | _, _, _, .nil, _, z => by cases z
  | _, _, _, .cons r t, a, z => by
    rcases List.mem_append.mp z with z | z
    · exact reads_lt r a z
    · exact reads_ltA t a z
end
section
variable {X : Cx}
/-- what a sort asks of the items bs, read off by enc: what holds of an item (R) stands behind the sort -/
structure SortOk {β : Type} (enc : β → PyData) (bs : List β) : Prop where
  alike : PySem.W.AllAlike (bs.map enc)
  kind : PySem.W.Sortable (bs.map enc)
  deep : ∀ b ∈ bs, (enc b).depth ≤ 20
  few : bs.length ≤ 1000000
def rSortD {β : Type} (enc : β → PyData) (K : PySem.W.Frag) : List V → Hp → VK → Prop := fun vs H Q =>
  ∃ (a : Addr) (xs : List V) (bs : List β) (R : V → β → Prop), vs = [.ref a] ∧ SqL K H a xs ∧ Paired R xs bs ∧ (∀ x b, R x b → Dp K H x (enc b)) ∧ SortOk enc bs ∧
    ∀ p ys, H p = none → Paired R ys (bs.mergeSort (PySem.W.dataLe false enc)) → Q (.ref p) (upd H p (.lst ys))
theorem each_reads {pins : List (Addr × Obj)} {σ : L2.St} {H : Hp} {s : Shared} {β : Type} {enc : β → PyData} {R : V → β → Prop} (I : Inv X pins σ H s) (hR : ∀ x b, R x b → Dp X.K H x (enc b)) {us : List Value} {bs : List β}
    (e : PySem.W.EachIs (fun u b => ∃ x, RelV x u ∧ R x b) us bs) : PySem.W.EachIs (fun v b => ∃ as, Reads s.heap v (enc b) as) us bs :=
  e.mono fun u b ⟨x, rx, rb⟩ => Dp.reads I (enc b) x u (hR x b rb) rx
theorem sort_done {pins : List (Addr × Obj)} {σ : L2.St} {H : Hp} {s : Shared} {β : Type} {R : V → β → Prop} {ms : List β} {out : List Value} {p : Addr} {c tk : Nat} {h' : Heap} {Q : VK} (I : Inv X pins σ H s) (hp : s.heap.objs.size ≤ p)
    (kp : ∀ b o, s.heap.get? b = some o → h'.get? b = some o) (at_ : h'.get? p = some { cls := .type "list", data := .seq out.toArray c }) (ho : out.length ≤ sizeLine) (eo : PySem.W.EachIs (fun u b => ∃ x, RelV x u ∧ R x b) out ms)
    (q : ∀ p ys, H p = none → Paired R ys ms → Q (.ref p) (upd H p (.lst ys))) : EP X pins σ Q (.ref p) { s with heap := h', toks := tk } := by
  obtain ⟨ys, h1, h2⟩ := vals_each eo
  have hn : H p = none := I.hok.fresh hp
  exact ⟨.ref p, _, I.laid (t' := tk) (o := .lst ys) kp hp ⟨by rw [h2.length]; exact ho, out, c, h2, at_⟩, rfl, q p ys hn h1⟩
theorem cr_sortD {β : Type} (enc : β → PyData) (hu : X.A.units + 64 < cLine) : CallR X (.builtin "sorted") (rSortD enc X.K) := by
  intro pins s σ H vs us Q I r hw
  obtain ⟨a, xs, bs, R, e0, hs, pr, hR, ok, q⟩ := hw
  subst e0
  rw [Vals_one r]
  obtain ⟨its, rv, hl, _⟩ := I.list hs
  have e1 := each_vals pr rv
  have hz : bs.length ≤ sizeLine := by
    have := ok.few
    rw [sizeLine_eq]
    omega
  refine PySem.W.sorted_data hl.isList e1 (each_reads I hR e1) ok.alike ok.kind hz (fun b hb => ?_) fun out ho eo => ?_
  · have := ok.deep b hb
    omega
  · obtain ⟨c, hc⟩ := sortedAll_at s.heap its out.toArray
    exact sort_done (c := c) I (Nat.le_succ _) (fun b o z => sortedAll_old z) hc (by rw [ho]; exact hz) eo q
/-- sorted(d), d a dict with tuple keys: the keys, sorted -/
def rSortK {β : Type} (enc : β → PyData) (K : PySem.W.Frag) : List V → Hp → VK → Prop := fun vs H Q =>
  ∃ (a : Addr) (kvs : List (List Key × V)) (bs : List β) (R : V → β → Prop), vs = [.ref a] ∧ Rd H a (.dT kvs) ∧ (∀ ps, IsKeys H kvs ps → Paired R (ps.map V.ref) bs) ∧ (∀ x b, R x b → Dp K H x (enc b)) ∧ SortOk enc bs ∧
    ∀ p ys, H p = none → Paired R ys (bs.mergeSort (PySem.W.dataLe false enc)) → Q (.ref p) (upd H p (.lst ys))
theorem keys_items {P : Program} {w : World} {ks : List (List Key × Addr × Value)} {es : Array DictEntry} {acc : List Value} (he : es.toList = ks.map (entryOfKey (tupleKind (mixKind P w)))) (hn : acc.length = es.size)
    (ha : ∀ (j : Nat) (v : Value), acc[j]? = some v → ∃ en : DictEntry, es[j]? = some en ∧ v = en.key) : acc = (ks.map fun x => x.2.1).map Value.ref := by
  apply List.ext_getElem?
  intro j
  rw [List.map_map, List.getElem?_map]
  have eq : es[j]? = (ks[j]?).map (entryOfKey (tupleKind (mixKind P w))) := by
    rw [← Array.getElem?_toList, he, List.getElem?_map]
  cases hj : acc[j]? with
  | none =>
    have z : es.size ≤ j := by
      rw [← hn]
      exact List.getElem?_eq_none_iff.mp hj
    have z2 : es[j]? = none := Array.getElem?_eq_none_iff.mpr z
    rw [z2] at eq
    cases hk : ks[j]? with
    | none => rfl
    | some x =>
      rw [hk] at eq
      cases eq
  | some v =>
    obtain ⟨en, e1, e2⟩ := ha j v hj
    rw [e1] at eq
    cases hk : ks[j]? with
    | none =>
      rw [hk] at eq
      cases eq
    | some x =>
      rw [hk] at eq
      have e3 : en = entryOfKey (tupleKind (mixKind P w)) x := Option.some.inj eq
      rw [e2, e3]
      rfl
theorem cr_sortK {β : Type} (enc : β → PyData) (hc : X.calm = true) (hu : X.A.units + 64 < cLine) : CallR X (.builtin "sorted") (rSortK enc X.K) := by
  intro pins s σ H vs us Q I r hw
  obtain ⟨d, kvs, bs, R, e0, hd, hps, hR, ok, q⟩ := hw
  subst e0
  rw [Vals_one r]
  have hh := I.ok.hd hc
  have hz : bs.length ≤ sizeLine := by
    have := ok.few
    rw [sizeLine_eq]
    omega
  obtain ⟨_, hs, ks, pr, o, es, ep, ho, hx, hdt, he, _⟩ := (show ObjOk X.prog X.w H s.heap d (.dT kvs) from hd.ok I.hok)
  obtain ⟨m, F⟩ := I.fr
  have l1 : es.size = ks.length := by
    rw [← Array.length_toList, he, List.length_map]
  have prK := hps _ (isKeys_of pr)
  have l2 : bs.length = ks.length := by
    have z := Paired.length prK
    rw [List.length_map, List.length_map] at z
    exact z.symm
  have KS := kdl_raw (prog := X.prog) (w := X.w) (o := o) (es := es) (ep := ep) hs hx hdt
  refine Calls.call_function_entry kind_sorted plain_sorted entry_sorted (args_sorted1 _) ?_
  unfold Builtin.«sorted»
  refine wpAny_bind (m := checkCount "sorted" 1 1 _) (wpAny_pure ?_)
  refine wpAny_bind (PySem.W.kdu_collect (A := X.A.in1) KS hh ho (by omega) fun h' tk acc kp it => ?_)
  have ea := keys_items he (show acc.toList.length = es.size by rw [Array.length_toList]; exact it.1) (fun j v e => it.2 j v (by rw [← Array.getElem?_toList]; exact e))
  have hl : acc.toList.length = bs.length := by
    rw [Array.length_toList, it.1, l1, l2]
  refine wpAny_bind (wpAny_newList ?_ (by omega))
  have rv : Vals ((ks.map fun x => x.2.1).map V.ref) acc.toList := by
    rw [ea]
    exact vals_refs _
  have e1 := each_vals prK rv
  have J : Inv X pins σ H { s with heap := h', toks := tk } := I.kept kp
  have J2 : Inv X pins σ H { s with heap := h'.push { cls := .type "list", data := .seq acc.toList.toArray }, toks := tk } := I.kept fun b ob z => Heap.get?_push_of_some _ (kp b ob z)
  have notIn : ∀ v b, (∃ x, RelV x v ∧ R x b) → ∃ as, Reads (h'.push { cls := .type "list", data := .seq acc.toList.toArray }) v (enc b) as ∧ h'.objs.size ∉ as := fun v b ⟨x, rx, rb⟩ => by
    obtain ⟨as, h1⟩ := Dp.reads J (enc b) x v (hR x b rb) rx
    refine ⟨as, PyProof.Rows.Reads.keeps (fun _ _ z => Heap.get?_push_of_some _ z) h1, fun z => ?_⟩
    have := reads_lt h1 _ z
    exact Nat.lt_irrefl _ this
  have srt := PySem.W.list_sort_data (prog := X.prog) (w := X.w) (A := X.A.in1) (E := X.xe) (s := { s with heap := h'.push { cls := .type "list", data := .seq acc.toList.toArray }, toks := tk }) (a := h'.objs.size) (n := 0) (vs := acc.toList) (bs := bs) (enc := enc)
    (Q := fun v s' => v = .none ∧ ∃ out : List Value, out.length = bs.length ∧ PySem.W.EachIs (fun u b => ∃ x, RelV x u ∧ R x b) out (bs.mergeSort (PySem.W.dataLe false enc)) ∧ s' = { s with heap := sortedHeap (h'.push { cls := .type "list", data := .seq acc.toList.toArray }) h'.objs.size acc.toList out.toArray, toks := tk })
    (Heap.get?_push_size _ rfl) e1 (e1.mono notIn) ok.alike ok.kind hz (fun b hb => by
      have := ok.deep b hb
      show X.A.units + 1 + 1 + (enc b).depth < cLine
      omega) fun out hol eo => ⟨rfl, out, hol, eo, rfl⟩
  refine wpAny_bind (wpAny_holding (wpAny_mono srt (fun v s' ⟨_, out, hol, eo, es'⟩ => ?_) fun _ _ z => z))
  subst es'
  have hob : (h'.push { cls := .type "list", data := .seq acc.toList.toArray }).get? h'.objs.size = some (seqObj "list" acc.toList.toArray 0) := Heap.get?_push_size _ rfl
  obtain ⟨c, hc2⟩ := sortedHeap_at (vs := acc.toList) (out := out.toArray) hob
  refine wpAny_pure ⟨_, rfl, sort_done (s := { s with heap := h', toks := tk }) (c := c) J (Nat.le_refl _) (fun b ob z => ?_) hc2 (by rw [hol]; exact hz) eo q⟩
  have lt : b < h'.objs.size := Heap.lt_size (show h'.get? b = some ob from z)
  rw [sortedHeap_old (Nat.ne_of_lt lt) (by rw [Heap.size_push]; exact Nat.lt_succ_of_lt lt)]
  exact Heap.get?_push_of_some _ z
end
end Ow

/-! ## X0d -/
set_option Elab.async false
set_option linter.all false
set_option maxRecDepth 100000
set_option maxHeartbeats 4000000
/-! own rules, part d: a tuple times a number from one on -/
namespace Ow
open PySem PySem.Spec PyProof.Rows L2
theorem tuple_once (l : Addr) (items : Array Value) (n : Nat) (dd : Option Addr) (sl : Array (Option Value)) (u : Tok) :
    Meets (Builtin.«tuple.__mul__» ⟨[.ref l, .int 1 u], []⟩) (fun _ R s => s.heap.get? l = some { cls := .type "tuple", dict := dd, data := .seq items n, slots := sl } ∧ R (.ok (.ret (Value.ref l))) s) :=
  .of_wp fun prog w A R s h => by
    obtain ⟨hp, g, d, tk, os⟩ := s
    obtain ⟨hl, h⟩ := h
    have f1 := AutoSeq1.idx_int
    have c0 : (decide ((1 : Int) < -(2 ^ 63)) || decide ((1 : Int) ≥ 2 ^ 63)) = false := by decide
    have c1 : (items.isEmpty || ((1 : Int) == 1)) = true := by simp
    wp_walk using wpAny_loadPart' hl
    repeat (first
      | (refine wpAny_ite_false (decide_eq_false (by rw [c0]; exact Bool.false_ne_true)) ?_; wp_walk using wpAny_loadPart' hl)
      | (refine wpAny_ite_true (decide_eq_true c1) ?_; wp_walk using wpAny_loadPart' hl))
    exact ⟨_, rfl, h⟩
section
variable {X : Cx}
/-- t * k of a tracked tuple, k from one on (once: the tuple itself) -/
def rRepA : R2 := fun x y H Q => ∃ (l : Addr) (k : Nat) (xs : List V), x = .ref l ∧ y = .int (k : Nat) ∧ H l = some (.tup xs) ∧ xs ≠ [] ∧ 1 ≤ k ∧ k ≤ 1000 ∧ xs.length ≤ 1000 ∧
  ∀ (p : Addr) (H' : Hp), Same H H' → H' p = some (.tup (List.replicate k xs).flatten) → Q (.ref p) H'
theorem same_new {H : Hp} {p : Addr} {o : HO} (h : H p = none) : Same H (upd H p o) := fun b u e => by
  rw [upd_ne (ne_of_none e h)]
  exact e
theorem op_repA : OpR X (binaryOp .Mult) rRepA := by
  intro pins s σ H x y v u Q I rx ry hw
  obtain ⟨l, k, xs, e1, e2, hT, hne, h1, h2, hz, q⟩ := hw
  by_cases hk : k = 1
  · subst hk e1 e2
    cases rx
    obtain ⟨t, rfl⟩ := ry
    obtain ⟨its, r, ⟨⟨cls, dd, data, sl⟩, ho, hc, n, hd⟩, hs⟩ := I.tuple (SqT.of (K := X.K) hT)
    simp only at hc hd
    subst hc
    subst hd
    refine wpAny_binaryOp_repeat_ref (T := "tuple") (U := "int") (by decide) ⟨_, ho, rfl⟩ (fun s' => typeIs_int s' _ t) noFill_tuple_mul F.fills_int_mul F.slot_int_rmul repeat_tuple F.slot_int_index.lookup
      (call_meets F.slot_int_rmul (typeIs_int s _ t) F.entry_int_rmul (F.args_int_rmul_2 _ _) (int_rmul_tuple _ t l its.toArray n dd sl) ⟨ho, rfl, ⟨_, ho, rfl⟩, ?_⟩)
    refine call_meets F.slot_tuple_mul ⟨_, ho, rfl⟩ F.entry_tuple_mul (F.args_tuple_mul_2 _ _) (tuple_once l its.toArray n dd sl t) ⟨ho, ?_⟩
    exact ⟨.ref l, H, I, rfl, q l H (Same.refl H) (by rw [hT]; simp)⟩
  · refine op_repT pins s σ H x y v u Q I rx ry ⟨l, (k : Nat), xs, e1, e2, SqT.of hT, hne, by omega, by omega, hz, fun p hp => ?_⟩
    refine q p _ (same_new hp) ?_
    rw [upd_same, Int.toNat_natCast]
end
end Ow

/-! ## X0e -/
set_option Elab.async false
set_option linter.all false
set_option maxRecDepth 100000
set_option maxHeartbeats 4000000
/-! own rules, part e: for i, x in enumerate(t), t a tuple -/
namespace Ow
open PySem PySem.Spec PyProof.Rows L2
theorem enum_newT (l : Addr) (items : Array Value) (n : Nat) (dct : Option Addr) (sl : Array (Option Value)) :
    Meets (Builtin.«enumerate.__new__» ⟨[.type "enumerate", .ref l], []⟩) (fun _ R s => s.heap.get? l = some { cls := .type "tuple", dict := dct, data := .seq items n, slots := sl } ∧
      R (.ok (.ret (.ref (s.heap.objs.size + 1)))) { s with heap := (s.heap.push { cls := .type "tuple_iterator", data := .fields #[.ref l, .int 0 0] }).push { cls := .type "enumerate", data := .fields #[.none, .bool false, .ref s.heap.objs.size, rawInt 0, .none, .none] } }) :=
  .of_wp fun prog w A R s h => by
    obtain ⟨hp, g, d, tk, os⟩ := s
    obtain ⟨hl, h⟩ := h
    have hz : (hp.push { cls := .type "tuple_iterator", data := .fields #[.ref l, .int 0 0] }).objs.size = hp.objs.size + 1 := Heap.size_push ..
    have sub := sub_enumerate
    have hL : Heap.IsTuple (Shared.heap ⟨hp, g, d, tk, os⟩) l items := ⟨_, hl, rfl, n, rfl⟩
    wp_walk using AutoSeq1.wpAny_loadPart' hl
    refine wpAny_stack_any fun st => wpAny_pure ?_
    split
    · rename_i c _ _ _ _ _
      cases (c == Value.type "enumerate") <;> (wp_walk using AutoSeq1.wpAny_loadPart' hl, wpAny_pyIter_tuple hL; rw [hz]; exact ⟨_, rfl, h⟩)
    · wp_walk using AutoSeq1.wpAny_loadPart' hl, wpAny_pyIter_tuple hL
      rw [hz]
      exact ⟨_, rfl, h⟩
section
variable {prog : Program} {w : World} {A : Around} {E : Value → Shared → Prop} {s : Shared}
theorem enum_callT {l : Addr} {items : Array Value} {Q : Value → Shared → Prop} (hL : s.heap.IsTuple l items)
    (h : ∀ h', IsEnum h' (s.heap.objs.size + 1) s.heap.objs.size 0 .none → h'.IsTupleIter s.heap.objs.size l 0 → (∀ b o, s.heap.get? b = some o → h'.get? b = some o) → Q (.ref (s.heap.objs.size + 1)) { s with heap := h' }) :
    wpAny (model prog w) A (call (.type "enumerate") [.ref l]) Q E s := by
  obtain ⟨⟨c, dct, dt, sl⟩, hl, hc, n, hd⟩ := hL
  simp only at hc hd
  subst hc
  subst hd
  have hz : (s.heap.push { cls := .type "tuple_iterator", data := .fields #[.ref l, .int 0 0] }).objs.size = s.heap.objs.size + 1 := Heap.size_push ..
  refine callType_new F.called_enumerate (by decide) (F.typeCall_enumerate_1 _) (F.newCall_enumerate_1 _) (fun obj => F.args_object_init_2 obj _) F.entry_enumerate_new (enum_newT l items n dct sl) ⟨hl, ?_⟩
  have he : IsEnum ((s.heap.push { cls := .type "tuple_iterator", data := .fields #[.ref l, .int 0 0] }).push { cls := .type "enumerate", data := .fields #[.none, .bool false, .ref s.heap.objs.size, rawInt 0, .none, .none] }) (s.heap.objs.size + 1) s.heap.objs.size 0 .none := by
    rw [← hz]
    exact Heap.get?_push_size _ rfl
  exact ⟨⟨_, he, rfl⟩, h _ he ⟨_, Heap.get?_push_of_some _ (Heap.get?_push_size _ rfl), rfl, rfl⟩ fun b o x => Heap.get?_push_of_some _ (Heap.get?_push_of_some _ x)⟩
end
/-- the tuple at a, its items in new pairs with their places -/
def ItE (K : PySem.W.Frag) (a : Addr) : It :=
  ⟨fun i H => ∃ (xs : List V) (x : V), SqT K H a xs ∧ xs[i]? = some x, fun i H v H' => ∃ T x, v = .ref T ∧ H T = none ∧ H' = upd H T (.tup [.int (i : Nat), x]) ∧ ∀ xs, SqT K H a xs → xs[i]? = some x, fun i H => ∃ xs : List V, SqT K H a xs ∧ xs.length = i⟩
theorem turn_enumT {P : Program} {w : World} {K : PySem.W.Frag} {elts : List Expr} {kk : Nat} {tpos : Pos} (a e it : Addr) :
    Turn P w K (.Tuple elts kk tpos) (ItE K a) [e, it] e (fun i h => (∃ old, IsEnum h e it ((i : Nat) : Int) old) ∧ h.IsTupleIter it a i ∧ e ≠ it) where
  mem := List.mem_cons_self
  obj := fun i h st b hb => by
    obtain ⟨⟨old, he⟩, ⟨o, ho, hc, hd⟩, _⟩ := st
    rcases List.mem_cons.mp hb with z | z
    · rw [z]
      exact ⟨_, he, fun v q => nomatch q⟩
    · rw [List.mem_singleton.mp z]
      exact ⟨o, ho, fun v q => by rw [hd] at q; cases q⟩
  keep := fun i h h' st k => ⟨st.1.imp fun old he => k e List.mem_cons_self _ he, st.2.1.at fun o q => k it (List.mem_cons_of_mem _ List.mem_cons_self) o q, st.2.2⟩
  item := by
    intro X hP hw hK hc i pins s σ H E I hf st hg
    subst hP hw hK
    obtain ⟨he, hit, hne⟩ := st
    obtain ⟨xs, x, hq, hx⟩ := hg
    obtain ⟨its, rv, p, hz⟩ := I.tuple hq
    obtain ⟨u, hu, ru⟩ := rv.get hx
    have tl : a < s.heap.objs.size := p.lt
    have fe := hf e List.mem_cons_self
    have fi := hf it (List.mem_cons_of_mem _ List.mem_cons_self)
    have nea : e ≠ a := fun z => by
      obtain ⟨old, he⟩ := he
      obtain ⟨o, ho, hc, _⟩ := p
      rw [← z] at ho
      rw [he] at ho
      cases ho
      exact absurd (show Value.type "enumerate" = Value.type "tuple" from hc) (by decide)
    have nia : a ≠ it := fun z => by
      obtain ⟨o, ho, hc, _⟩ := p
      obtain ⟨o2, ho2, hc2, _⟩ := hit
      rw [z] at ho
      rw [ho] at ho2
      cases ho2
      rw [hc] at hc2
      exact absurd hc2 (by decide)
    have W := GoesN.enumFrom (prog := X.prog) (w := X.w) (A := X.A) (elts := elts) (x1 := kk) (pos := tpos) 0 (Draws.tuple (A := X.A.in1) (I.ok.hd hc) it a nia its.toArray) e hne (by
      intro z
      rcases List.mem_cons.mp z with z | z
      · exact hne z
      · exact nea (List.mem_singleton.mp z)) List.mem_cons_self
    have hi : i < its.toArray.size := by
      rw [List.size_toArray]
      exact (List.getElem?_eq_some_iff.mp hu).1
    refine W.goes i s _ _ hi ⟨he.imp fun old z => by rw [Int.zero_add]; exact z, hit, p⟩ fun v h' tk hY st' hk _ => ?_
    obtain ⟨T, t, y, rfl, hT, hy, hTt⟩ := hY
    obtain ⟨⟨old', he'⟩, hit', _⟩ := st'
    have ey : y = u := by
      have z : its[i]? = some y := by simpa using hy
      rw [hu] at z
      exact (Option.some.inj z).symm
    rw [Int.zero_add] at hTt
    rw [Int.zero_add] at he'
    subst ey
    have new : ObjOk X.prog X.w (upd H T (.tup [.int (i : Nat), x])) h' T (.tup [.int (i : Nat), x]) := ⟨by show 2 ≤ sizeLine; decide, [.int i t, y], .cons ⟨_, rfl⟩ (.cons ru .nil), hTt⟩
    refine ⟨.ref T, _, I.turnedNew (ch := [e, it]) (t' := tk) hk hf hT new, rfl, ⟨T, x, rfl, I.hok.fresh hT, rfl, fun ys hy => by rw [I.tuple_inj hy hq]; exact hx⟩, ⟨⟨old', he'⟩, hit', hne⟩, fun b hb => ?_⟩
    have lt : b < s.heap.objs.size := by
      rcases List.mem_cons.mp hb with z | z
      · rw [z]
        obtain ⟨old, he⟩ := he
        exact Heap.lt_size he
      · rw [List.mem_singleton.mp z]
        obtain ⟨o, ho, _⟩ := hit
        exact Heap.lt_size ho
    rw [upd_ne (Nat.ne_of_lt (Nat.lt_of_lt_of_le lt hT))]
    exact (hf b hb).1
  done := by
    intro X hP hw hK hc i pins s σ H E I hf st hg
    subst hP hw hK
    obtain ⟨he, hit, hne⟩ := st
    obtain ⟨xs, hq, hx⟩ := hg
    obtain ⟨its, rv, p, hz⟩ := I.tuple hq
    have nia : a ≠ it := fun z => by
      obtain ⟨o, ho, hc, _⟩ := p
      obtain ⟨o2, ho2, hc2, _⟩ := hit
      rw [z] at ho
      rw [ho] at ho2
      cases ho2
      rw [hc] at hc2
      exact absurd hc2 (by decide)
    obtain ⟨f0, f1, f2, f3, f4, f5⟩ := hf it (List.mem_cons_of_mem _ List.mem_cons_self)
    have hl : its.toArray.size = i := by
      rw [List.size_toArray, ← rv.length]
      exact hx
    obtain ⟨old, he⟩ := he
    rw [← hl] at he hit
    exact wpAny_pyNext_enum_endD (Draws.tuple (A := X.A.in1) (I.ok.hd hc) it a nia its.toArray) he ⟨hit, p⟩ fun h' eb => ⟨rfl, I.turned (t' := s.toks) (fun b o hb q => eb b o hb q) f0 f1 f3 f4 f5⟩
  self := fun _ _ _ _ _ st h => let ⟨⟨old, he⟩, _⟩ := st; wpAny_pyIter_enum he h
section
variable {X : Cx} {e : Expr} {p pos tpos : Pos} {elts : List Expr} {kk : Nat}
/-- enumerate of a list or of a tuple -/
def iEnumA (K : PySem.W.Frag) (ta : TA) : TI := fun σ H R => ta σ H fun vs H1 => ∃ a xs, vs = [.ref a] ∧ ((SqL K H1 a xs ∧ R (Ite K a) H1) ∨ (SqT K H1 a xs ∧ R (ItE K a) H1))
theorem pi_enumA {ta : TA} (hg : Gl X "enumerate") (hm : X.mg "enumerate" = none) (ha : PA X [e] ta) (hs : starEach [e] X.env = [(false, eval e X.env)] := by rfl) : PI X (.Tuple elts kk tpos) (.Call (.Name "enumerate" p) [e] [] pos) (iEnumA X.K ta) := by
  refine ⟨fun pins s σ H R I hw => ?_⟩
  refine Call_ (ld_blt I hg hm boot_enumerate (PyProof.Rows.callWith_type1 (thn (ha.run pos pins s σ H _ I hw) fun us s1 ⟨vs, H1, I1, r1, q1⟩ => ?_) hs rfl))
  obtain ⟨a, xs, ex, q⟩ := q1
  subst ex
  rw [Vals_one r1]
  have two : ∀ b, b ∈ [s1.heap.objs.size + 1, s1.heap.objs.size] → s1.heap.objs.size ≤ b := fun b hb => by
    rcases List.mem_cons.mp hb with z | z
    · rw [z]
      exact Nat.le_succ _
    · rw [List.mem_singleton.mp z]
      exact Nat.le_refl _
  rcases q with ⟨hq, q⟩ | ⟨hq, q⟩
  · obtain ⟨its, rv, pl, hz⟩ := I1.list hq
    refine call_enumerate_list pl.isList fun h' he hit hsz hk => wpAny_pyIter_enum he ?_
    exact ⟨_, _, _, _, H1, rfl, I1.kept (t' := s1.toks) hk, turn_enum a (s1.heap.objs.size + 1) s1.heap.objs.size, ⟨⟨.none, he⟩, hit, Nat.succ_ne_self _⟩, fun b hb => I1.fpOk (two b hb) (I1.hok.fresh (two b hb)), q⟩
  · obtain ⟨its, rv, pl, hz⟩ := I1.tuple hq
    refine enum_callT pl fun h' he hit hk => wpAny_pyIter_enum he ?_
    exact ⟨_, _, _, _, H1, rfl, I1.kept (t' := s1.toks) hk, turn_enumT a (s1.heap.objs.size + 1) s1.heap.objs.size, ⟨⟨.none, he⟩, hit, Nat.succ_ne_self _⟩, fun b hb => I1.fpOk (two b hb) (I1.hok.fresh (two b hb)), q⟩
end
end Ow

/-! ## X0f -/
set_option Elab.async false
set_option linter.all false
set_option maxRecDepth 100000
set_option maxHeartbeats 4000000
/-! own rules, part f: list(zip(a, b, c)) of three tuples -/
namespace Ow
open PySem PySem.Spec PyProof.Rows L2
section
variable {prog : Program} {w : World} {A : Around} {E : Value → Shared → Prop} {s : Shared} {z TI TO i1 i2 i3 T : Addr} {fp1 fp2 fp3 : List Addr} {n1 n2 n3 i : Nat} {P1 P2 P3 : Nat → Value → Prop} {St1 St2 St3 : Nat → Heap → Prop} {f : Bool} {oT : Obj}
theorem zip3_more {Q : Value → Shared → Prop} (S : ZipSep3 z TI TO i1 i2 i3 fp1 fp2 fp3) (D1 : Draws prog w A i1 fp1 n1 P1 St1) (D2 : Draws prog w A i2 fp2 n2 P2 St2) (D3 : Draws prog w A i3 fp3 n3 P3 St3)
    (hz : IsZipHeld s.heap z TI TO T f) (hT : s.heap.get? T = some oT) (hTI : IsTupOf3 s.heap TI (.ref i1) (.ref i2) (.ref i3)) (st1 : St1 i s.heap) (st2 : St2 i s.heap) (st3 : St3 i s.heap) (l1 : i < n1) (l2 : i < n2) (l3 : i < n3)
    (hQ : ∀ x1 x2 x3 h' tk, P1 i x1 → P2 i x2 → P3 i x3 → IsZipHeld h' z TI TO T true → St1 (i + 1) h' → St2 (i + 1) h' → St3 (i + 1) h' → IsTupOf3 h' s.heap.objs.size x1 x2 x3 → h'.objs.size = s.heap.objs.size + 1 →
      (∀ c o, c ≠ z → c ≠ i1 → c ≠ i2 → c ≠ i3 → s.heap.get? c = some o → h'.get? c = some o) → Q (.ref s.heap.objs.size) { s with heap := h', toks := tk }) :
    wpAny (model prog w) A (Builtin.«zip.__next__» ⟨[.ref z], []⟩) (fun fin s' => ∃ v, fin = .done (.ret v) ∧ Q v s') E s := by
  obtain ⟨hp, g, d, tk0, os⟩ := s
  show wpAny _ _ (field (.ref z) 2 >>= _) _ _ _
  refine wpAny_bind (wpAny_field hz rfl (x := .bool false) rfl ?_)
  show wpAny _ _ (field (.ref z) 3 >>= _) _ _ _
  refine wpAny_bind (wpAny_field hz rfl (x := .ref TI) rfl ?_)
  refine wpAny_bind (wpAny_seqItems hTI rfl ?_)
  show wpAny _ _ (Builtin.SmallTypes.ownedTupleIsFree (.ref z) >>= _) _ _ _
  refine wpAny_bind (wpAny_tupleHeld_zip hz hT fun g0 hz0 hs0 => ?_)
  replace hs0 : Heap.SameBut z hp g0 := hs0
  simp only [Bool.false_eq_true, if_false]
  refine wpAny_bind ?_
  rw [← Array.forIn_toList]
  simp only [List.forIn_cons, List.forIn_nil]
  refine wpAny_bind (wpAny_bind (wpAny_holding ?_))
  show wpAny _ _ (Builtin.SmallTypes.nextOf (.ref i1) >>= _) _ _ ⟨g0, g, d, tk0, os⟩
  refine wpAny_bind (D1.item i _ _ _ l1 (D1.over st1 hs0 S.zf1) fun x1 g1 tk1 hx1 sn1 hs1 => wpAny_pure ?_)
  replace hs1 : Heap.SameBut i1 g0 g1 := hs1
  refine wpAny_pure ?_
  refine wpAny_bind (wpAny_bind (wpAny_holding ?_))
  show wpAny _ _ (Builtin.SmallTypes.nextOf (.ref i2) >>= _) _ _ ⟨g1, g, d, tk1, os⟩
  refine wpAny_bind (D2.item i _ _ _ l2 (D2.over (D2.over st2 hs0 S.zf2) hs1 S.sep1_2) fun x2 g2 tk2 hx2 sn2 hs2 => wpAny_pure ?_)
  replace hs2 : Heap.SameBut i2 g1 g2 := hs2
  refine wpAny_pure ?_
  refine wpAny_bind (wpAny_bind (wpAny_holding ?_))
  show wpAny _ _ (Builtin.SmallTypes.nextOf (.ref i3) >>= _) _ _ ⟨g2, g, d, tk2, os⟩
  refine wpAny_bind (D3.item i _ _ _ l3 (D3.over (D3.over (D3.over st3 hs0 S.zf3) hs1 S.sep1_3) hs2 S.sep2_3) fun x3 g3 tk3 hx3 sn3 hs3 => wpAny_pure ?_)
  replace hs3 : Heap.SameBut i3 g2 g3 := hs3
  refine wpAny_pure (wpAny_pure ?_)
  show wpAny _ _ (newTuple [x1, x2, x3] >>= _) _ _ _
  refine wpAny_bind (wpAny_newTuple ?_)
  have hsz : g3.objs.size = hp.objs.size := by rw [hs3.1, hs2.1, hs1.1, hs0.1]
  have hzz : IsZipHeld g3 z TI TO T true := hs3.extBut _ _ S.zi3 (hs2.extBut _ _ S.zi2 (hs1.extBut _ _ S.zi1 hz0))
  have hk : ∀ c o, c ≠ z → c ≠ i1 → c ≠ i2 → c ≠ i3 → hp.get? c = some o → g3.get? c = some o := fun c o cz c1 c2 c3 e => hs3.extBut _ _ c3 (hs2.extBut _ _ c2 (hs1.extBut _ _ c1 (hs0.extBut _ _ cz e)))
  have j1 : St1 (i + 1) g3 := D1.over (D1.over sn1 hs2 S.sep2_1) hs3 S.sep3_1
  have j2 : St2 (i + 1) g3 := D2.over sn2 hs3 S.sep3_2
  refine wpAny_pure ⟨_, rfl, ?_⟩
  show Q (.ref g3.objs.size) ⟨g3.push { cls := .type "tuple", data := .seq #[x1, x2, x3] }, g, d, tk3, os⟩
  have new : IsTupOf3 (g3.push { cls := .type "tuple", data := .seq #[x1, x2, x3] }) g3.objs.size x1 x2 x3 := Heap.get?_push_size _ rfl
  have sz2 : (g3.push { cls := .type "tuple", data := .seq #[x1, x2, x3] }).objs.size = g3.objs.size + 1 := Heap.size_push ..
  rw [hsz] at new sz2 ⊢
  have up : ∀ c o, g3.get? c = some o → (g3.push { cls := .type "tuple", data := .seq #[x1, x2, x3] }).get? c = some o := fun c o e => Heap.get?_push_of_some _ e
  exact hQ x1 x2 x3 _ tk3 hx1 hx2 hx3 (up _ _ hzz) (D1.frame _ _ _ j1 fun b _ o e => up b o e) (D2.frame _ _ _ j2 fun b _ o e => up b o e) (D3.frame _ _ _ sn3 fun b _ o e => up b o e) new sz2 fun c o cz c1 c2 c3 e => up c o (hk c o cz c1 c2 c3 e)
theorem zip3_over {Q : Fin → Shared → Prop} (S : ZipSep3 z TI TO i1 i2 i3 fp1 fp2 fp3) (D1 : Draws prog w A i1 fp1 n1 P1 St1) (hz : IsZipHeld s.heap z TI TO T f) (hT : s.heap.get? T = some oT) (hTI : IsTupOf3 s.heap TI (.ref i1) (.ref i2) (.ref i3)) (st1 : St1 n1 s.heap)
    (hE : ∀ h' e, (∀ c o, c ≠ z → c ≠ i1 → s.heap.get? c = some o → h'.get? c = some o) → (∃ o, h'.get? e = some o ∧ o.cls = .type "StopIteration") → E (.ref e) { s with heap := h' }) :
    wpAny (model prog w) A (Builtin.«zip.__next__» ⟨[.ref z], []⟩) Q E s := by
  obtain ⟨hp, g, d, tk0, os⟩ := s
  show wpAny _ _ (field (.ref z) 2 >>= _) _ _ _
  refine wpAny_bind (wpAny_field hz rfl (x := .bool false) rfl ?_)
  show wpAny _ _ (field (.ref z) 3 >>= _) _ _ _
  refine wpAny_bind (wpAny_field hz rfl (x := .ref TI) rfl ?_)
  refine wpAny_bind (wpAny_seqItems hTI rfl ?_)
  show wpAny _ _ (Builtin.SmallTypes.ownedTupleIsFree (.ref z) >>= _) _ _ _
  refine wpAny_bind (wpAny_tupleHeld_zip hz hT fun g0 hz0 hs0 => ?_)
  replace hs0 : Heap.SameBut z hp g0 := hs0
  simp only [Bool.false_eq_true, if_false]
  refine wpAny_bind ?_
  rw [← Array.forIn_toList]
  simp only [List.forIn_cons, List.forIn_nil]
  refine wpAny_bind (wpAny_bind (wpAny_holding ?_))
  show wpAny _ _ (Builtin.SmallTypes.nextOf (.ref i1) >>= _) _ _ ⟨g0, g, d, tk0, os⟩
  refine wpAny_bind (D1.done _ _ _ (D1.over st1 hs0 S.zf1) fun g1 e hs1 he => ?_)
  exact hE g1 e (fun c o cz c1 x => hs1 _ _ c1 (hs0.extBut _ _ cz x)) he
theorem zip3_next_more {Q : Option Value → Shared → Prop} (S : ZipSep3 z TI TO i1 i2 i3 fp1 fp2 fp3) (D1 : Draws prog w A.in1 i1 fp1 n1 P1 St1) (D2 : Draws prog w A.in1 i2 fp2 n2 P2 St2) (D3 : Draws prog w A.in1 i3 fp3 n3 P3 St3)
    (hz : IsZipHeld s.heap z TI TO T f) (hT : s.heap.get? T = some oT) (hTI : IsTupOf3 s.heap TI (.ref i1) (.ref i2) (.ref i3)) (st1 : St1 i s.heap) (st2 : St2 i s.heap) (st3 : St3 i s.heap) (l1 : i < n1) (l2 : i < n2) (l3 : i < n3)
    (hQ : ∀ x1 x2 x3 h' tk, P1 i x1 → P2 i x2 → P3 i x3 → IsZipHeld h' z TI TO T true → St1 (i + 1) h' → St2 (i + 1) h' → St3 (i + 1) h' → IsTupOf3 h' s.heap.objs.size x1 x2 x3 → h'.objs.size = s.heap.objs.size + 1 →
      (∀ c o, c ≠ z → c ≠ i1 → c ≠ i2 → c ≠ i3 → s.heap.get? c = some o → h'.get? c = some o) → Q (some (.ref s.heap.objs.size)) { s with heap := h', toks := tk }) : wpAny (model prog w) A (pyNext (.ref z)) Q E s := by
  have ty : s.TypeIs (.ref z) "zip" := ⟨_, hz, rfl⟩
  unfold pyNext
  exact wpAny_bind (wpAny_attempt (wpAny_callSpecial?_slot (name := Str.ofString "__next__") ty F.slot_zip_next (wpAny_call_entry F.slot_zip_next ty F.entry_zip_next
    (zip3_more S D1 D2 D3 hz hT hTI st1 st2 st3 l1 l2 l3 fun x1 x2 x3 h' tk a1 a2 a3 a4 a5 a6 a7 a8 a9 a10 => wpAny_pure (hQ x1 x2 x3 h' tk a1 a2 a3 a4 a5 a6 a7 a8 a9 a10)) (F.args_zip_next_1 _))))
theorem zip3_next_over {Q : Option Value → Shared → Prop} (S : ZipSep3 z TI TO i1 i2 i3 fp1 fp2 fp3) (D1 : Draws prog w A.in1 i1 fp1 n1 P1 St1) (hz : IsZipHeld s.heap z TI TO T f) (hT : s.heap.get? T = some oT) (hTI : IsTupOf3 s.heap TI (.ref i1) (.ref i2) (.ref i3)) (st1 : St1 n1 s.heap)
    (hQ : ∀ h', (∀ c o, c ≠ z → c ≠ i1 → s.heap.get? c = some o → h'.get? c = some o) → Q none { s with heap := h' }) : wpAny (model prog w) A (pyNext (.ref z)) Q E s := by
  have ty : s.TypeIs (.ref z) "zip" := ⟨_, hz, rfl⟩
  unfold pyNext
  refine wpAny_bind (wpAny_attempt (wpAny_callSpecial?_slot (name := Str.ofString "__next__") ty F.slot_zip_next (wpAny_call_entry F.slot_zip_next ty F.entry_zip_next (zip3_over S D1 hz hT hTI st1 fun h' e hk he => ?_) (F.args_zip_next_1 _))))
  obtain ⟨o, ho, hc⟩ := he
  refine wpAny_bind (wpAny_isInstance (T := "StopIteration") (b := true) ⟨o, ho, hc⟩ isSubtype_stop ?_)
  exact wpAny_pure (hQ _ hk)
end
/-! ### the loop of list(z) -/
theorem zip_no_len : typeLookup (.type "zip") "__len__" = pure none := by rw [typeLookup_type, builtinLookup_eq_fast]; kernel_rfl
theorem zip_no_hint : typeLookup (.type "zip") "__length_hint__" = pure none := by rw [typeLookup_type, builtinLookup_eq_fast]; kernel_rfl
/-- behind k turns: the tuples given out, each a new one, at N, N + 1, .. -/
structure ZipSt (xs ys us : Array Value) (a b c z TI TO i1 i2 i3 L N k : Nat) (h : Heap) : Prop where
  size : h.objs.size = N + k
  zip0 : k = 0 → IsZip h z TI TO .none ∧ IsTupOf3 h TO .none .none .none
  zip1 : 0 < k → ∃ f, IsZipHeld h z TI TO N f
  ti : IsTupOf3 h TI (.ref i1) (.ref i2) (.ref i3)
  s1 : h.IsTupleIter i1 a k ∧ h.IsTuple a xs
  s2 : h.IsTupleIter i2 b k ∧ h.IsTuple b ys
  s3 : h.IsTupleIter i3 c k ∧ h.IsTuple c us
  tups : ∀ j, j < k → ∃ x y u, xs[j]? = some x ∧ ys[j]? = some y ∧ us[j]? = some u ∧ IsTupOf3 h (N + j) x y u
  acc : ∃ n, h.get? L = some { cls := .type "list", dict := none, data := .seq ((List.range k).map fun j => Value.ref (N + j)).toArray n, slots := #[] }
/-- the end: the tuples and the list of them -/
structure ZipEnd (xs ys us : Array Value) (L N n : Nat) (h : Heap) : Prop where
  tups : ∀ j, j < n → ∃ x y u, xs[j]? = some x ∧ ys[j]? = some y ∧ us[j]? = some u ∧ IsTupOf3 h (N + j) x y u
  acc : ∃ m, h.get? L = some { cls := .type "list", dict := none, data := .seq ((List.range n).map fun j => Value.ref (N + j)).toArray m, slots := #[] }
/-- where the cells lie -/
structure ZipLay (a b c z TI TO i1 i2 i3 L N : Nat) : Prop where
  sep : ZipSep3 z TI TO i1 i2 i3 [i1, a] [i2, b] [i3, c]
  a1 : a ≠ i1
  b2 : b ≠ i2
  c3 : c ≠ i3
  lz : L ≠ z
  lTI : L ≠ TI
  lTO : L ≠ TO
  l1 : L ≠ i1
  l2 : L ≠ i2
  l3 : L ≠ i3
  la : L ≠ a
  lb : L ≠ b
  lc : L ≠ c
  lN : L < N
  zN : z < N
  i1N : i1 < N
  i2N : i2 < N
  i3N : i3 < N
  TON : TO < N
theorem off_ne {N j q : Nat} (h : q < N) : N + j ≠ q := fun e => by omega
theorem range_push (n N : Nat) : (((List.range n).map fun j => Value.ref (N + j)).toArray).push (.ref (N + n)) = ((List.range (n + 1)).map fun j => Value.ref (N + j)).toArray := by
  rw [List.range_succ, List.map_append]
  simp
section
variable {prog : Program} {w : World} {A : Around} {R : Result → Shared → Prop} {xs ys us : Array Value} {a b c z TI TO i1 i2 i3 L N n : Nat}
theorem zip_loop (hh : A.handled = none) (D : ZipLay a b c z TI TO i1 i2 i3 L N) (e1 : xs.size = n) (e2 : ys.size = n) (e3 : us.size = n) (h0 : 0 < n) (h1 : n ≤ 1000) (res : Value) :
    ∀ (m k : Nat) (s : Shared), n - k = m → k ≤ n → ZipSt xs ys us a b c z TI TO i1 i2 i3 L N k s.heap →
    (∀ h' tk, (∀ q o, q ≠ L → q ≠ z → q ≠ TO → q ≠ i1 → q ≠ i2 → q ≠ i3 → s.heap.get? q = some o → h'.get? q = some o) → ZipEnd xs ys us L N n h' → R (.ok (.ret res)) { s with heap := h', toks := tk }) →
    codeAny (model prog w) A (.builtin "list.extend.loop" ⟨[.ref L, .ref z, res], []⟩) R s := by
  have D1 := Draws.tuple (prog := prog) (w := w) (A := A.in1.in1) hh i1 a D.a1 xs
  have D2 := Draws.tuple (prog := prog) (w := w) (A := A.in1.in1) hh i2 b D.b2 ys
  have D3 := Draws.tuple (prog := prog) (w := w) (A := A.in1.in1) hh i3 c D.c3 us
  intro m
  induction m with
  | zero =>
    intro k s hm hk st hR
    have e : k = n := by omega
    subst e
    refine codeAny_builtin F.entry_extend_loop ?_
    rw [Around.under_plainId F.plain_extend_loop _]
    show wpAny _ A.in1 (pyNext (.ref z) >>= _) _ _ s
    obtain ⟨f, hz⟩ := st.zip1 h0
    obtain ⟨x0, y0, u0, _, _, _, t0⟩ := st.tups 0 h0
    refine wpAny_bind (zip3_next_over D.sep D1 hz t0 st.ti (by rw [e1]; exact st.s1) fun h' kp => ?_)
    refine wpAny_pure (hR h' s.toks (fun q o _ qz _ q1 _ _ e => kp q o qz q1 e) ⟨fun j hj => ?_, ?_⟩)
    · obtain ⟨x, y, u, g1, g2, g3, g4⟩ := st.tups j hj
      exact ⟨x, y, u, g1, g2, g3, kp _ _ (off_ne D.zN) (off_ne D.i1N) g4⟩
    · obtain ⟨mm, g⟩ := st.acc
      exact ⟨mm, kp _ _ D.lz D.l1 g⟩
  | succ m ih =>
    intro k s hm hk st hR
    have lt : k < n := by omega
    refine codeAny_builtin F.entry_extend_loop ?_
    rw [Around.under_plainId F.plain_extend_loop _]
    show wpAny _ A.in1 (pyNext (.ref z) >>= _) _ _ s
    -- one more is given out
    have go : ∀ (x y u : Value) (h' : Heap) (tk : Nat), xs[k]? = some x → ys[k]? = some y → us[k]? = some u → (∃ f, IsZipHeld h' z TI TO N f) → (h'.IsTupleIter i1 a (k + 1) ∧ h'.IsTuple a xs) → (h'.IsTupleIter i2 b (k + 1) ∧ h'.IsTuple b ys) → (h'.IsTupleIter i3 c (k + 1) ∧ h'.IsTuple c us) →
        IsTupOf3 h' (N + k) x y u → h'.objs.size = N + k + 1 → (∀ q o, q ≠ z → q ≠ TO → q ≠ i1 → q ≠ i2 → q ≠ i3 → s.heap.get? q = some o → h'.get? q = some o) →
        wpAny (model prog w) A.in1 (updateSeq L (·.push (.ref (N + k))) >>= fun _ => again (.builtin "list.extend.loop" ⟨[.ref L, .ref z, res], []⟩))
          (fun fin s' => match fin with | .done f => R (.ok f) s' | .again c' => c'.quiet = true ∧ codeAny (model prog w) A c' R s') (fun e s' => R (.error e) s') { s with heap := h', toks := tk } := by
      intro x y u h' tk g1 g2 g3 hz s1 s2 s3 tp sz kp
      obtain ⟨mm, gl⟩ := st.acc
      have gl' := kp L _ D.lz D.lTO D.l1 D.l2 D.l3 gl
      refine wpAny_bind (wpAny_updateSeq gl' rfl (wpAny_pure ⟨plainId_quiet F.plain_extend_loop _, ih (k + 1) _ (by omega) lt ?_ fun h'' tk2 kp2 fin => ?_⟩) ?_ ?_)
      · have up : ∀ q o, q ≠ L → h'.get? q = some o → (h'.update L (Obj.mapSeq (·.push (.ref (N + k))))).get? q = some o := fun q o ql e => (Heap.get?_update_other _ _ (Ne.symm ql)).trans e
        have lN := D.lN
        refine ⟨by rw [Heap.size_update, sz]; omega, fun e => by omega, fun _ => hz.imp fun f q => up _ _ D.lz.symm q, up _ _ D.lTI.symm (kp _ _ D.sep.TIz D.sep.TITO D.sep.TIi1 D.sep.TIi2 D.sep.TIi3 st.ti), ?_, ?_, ?_, ?_, ?_⟩
        · exact ⟨s1.1.at fun o e => up _ _ D.l1.symm e, s1.2.at fun o e => up _ _ D.la.symm e⟩
        · exact ⟨s2.1.at fun o e => up _ _ D.l2.symm e, s2.2.at fun o e => up _ _ D.lb.symm e⟩
        · exact ⟨s3.1.at fun o e => up _ _ D.l3.symm e, s3.2.at fun o e => up _ _ D.lc.symm e⟩
        · intro j hj
          by_cases hj2 : j = k
          · subst hj2
            exact ⟨x, y, u, g1, g2, g3, up _ _ (off_ne lN) tp⟩
          · obtain ⟨x', y', u', q1, q2, q3, q4⟩ := st.tups j (by omega)
            exact ⟨x', y', u', q1, q2, q3, up _ _ (off_ne lN) (kp _ _ (off_ne D.zN) (off_ne D.TON) (off_ne D.i1N) (off_ne D.i2N) (off_ne D.i3N) q4)⟩
        · have q := Heap.get?_update_self (Obj.mapSeq (·.push (.ref (N + k)))) gl' rfl
          simp only [Obj.mapSeq, range_push] at q
          exact ⟨_, q⟩
      · exact hR h'' tk2 (fun q o ql qz qT q1 q2 q3 e => kp2 q o ql qz qT q1 q2 q3 ((Heap.get?_update_other _ _ (Ne.symm ql)).trans (kp q o qz qT q1 q2 q3 e))) fin
      · simp
        rw [sizeLine_eq]
        omega
      · simp
        rw [sizeLine_eq]
        omega
    have hx : k < xs.size := by omega
    have hy : k < ys.size := by omega
    have hu : k < us.size := by omega
    by_cases k0 : k = 0
    · subst k0
      obtain ⟨hz, hTO⟩ := st.zip0 rfl
      refine wpAny_bind (wpAny_pyNext_zipD3_item D.sep D1 D2 D3 hz st.ti hTO st.s1 st.s2 st.s3 hx hy hu fun x1 x2 x3 h' tk p1 p2 p3 z1 _ t1 t2 t3 tp sz kp => ?_)
      have e0 : s.heap.objs.size = N := st.size
      rw [e0] at z1 tp sz
      have r := go x1 x2 x3 h' tk p1 p2 p3 ⟨false, z1⟩ t1 t2 t3 tp sz kp
      rw [e0]
      exact r
    · obtain ⟨f, hz⟩ := st.zip1 (by omega)
      obtain ⟨x0, y0, u0, _, _, _, t0⟩ := st.tups 0 (by omega)
      refine wpAny_bind (zip3_next_more D.sep D1 D2 D3 hz t0 st.ti st.s1 st.s2 st.s3 hx hy hu fun x1 x2 x3 h' tk p1 p2 p3 z1 t1 t2 t3 tp sz kp => ?_)
      rw [st.size] at tp sz ⊢
      exact go x1 x2 x3 h' tk p1 p2 p3 ⟨true, z1⟩ t1 t2 t3 tp sz fun q o qz _ q1 q2 q3 e => kp q o qz q1 q2 q3 e
end
section
variable {prog : Program} {w : World} {A : Around} {E : Value → Shared → Prop} {s : Shared} {xs ys us : Array Value} {a b c n : Nat}
/-- list(zip(a, b, c)), the two calls in a row -/
theorem list_zip3 {Q : Value → Shared → Prop} (hh : A.handled = none) (ha : s.heap.IsTuple a xs) (hb : s.heap.IsTuple b ys) (hc : s.heap.IsTuple c us) (e1 : xs.size = n) (e2 : ys.size = n) (e3 : us.size = n) (h0 : 0 < n) (h1 : n ≤ 1000)
    (hQ : ∀ L N h' tk, s.heap.objs.size ≤ L → L < N → (∀ q o, s.heap.get? q = some o → h'.get? q = some o) → ZipEnd xs ys us L N n h' → Q (.ref L) { s with heap := h', toks := tk }) :
    wpAny (model prog w) A (call (.type "zip") [.ref a, .ref b, .ref c]) (fun v s1 => wpAny (model prog w) A (call (.type "list") [v]) Q E s1) E s := by
  have la : a < s.heap.objs.size := IsTup.lt ha
  have lb : b < s.heap.objs.size := IsTup.lt hb
  have lc : c < s.heap.objs.size := IsTup.lt hc
  refine zip_begins3 (begins_tuple a xs) (begins_tuple b ys) (begins_tuple c us) ha hb hc fun h0' hz hti hto g1 g2 g3 hsz kp0 => ?_
  generalize hM : s.heap.objs.size = M at *
  -- the new list, at M + 6
  refine callType_codes (Q₁ := fun obj s₁ => obj = .ref (M + 6) ∧ s₁ = { s with heap := h0'.push { cls := .type "list", data := .seq #[] } }) PySem.F.called_list (PySem.F.typeCall_list_1 _) PySem.F.entry_list_init
    (code_list_new _ ⟨by rw [← hsz], rfl⟩) fun obj s₁ hh₁ => ?_
  obtain ⟨rfl, rfl⟩ := hh₁
  have gL : (h0'.push { cls := .type "list", data := .seq #[] }).get? (M + 6) = some { cls := .type "list", data := .seq #[] } := by
    rw [← hsz]
    exact Heap.get?_push_size _ rfl
  have kp1 : ∀ q o, h0'.get? q = some o → (h0'.push { cls := .type "list", data := .seq #[] }).get? q = some o := fun q o e => Heap.get?_push_of_some _ e
  refine ⟨⟨_, gL, rfl⟩, PySem.F.args_list_init_2 _ _, ?_⟩
  have z5 : (h0'.push { cls := .type "list", data := .seq #[] }).objs.size = M + 7 := by rw [Heap.size_push, hsz]
  have lay : ZipLay a b c (M + 5) (M + 3) (M + 4) M (M + 1) (M + 2) (M + 6) (M + 7) := by
    have ar : ∀ q : Nat, q < M → q ≠ M ∧ q ≠ M + 1 ∧ q ≠ M + 2 ∧ q ≠ M + 3 ∧ q ≠ M + 4 ∧ q ≠ M + 5 ∧ q ≠ M + 6 := fun q hq => by omega
    obtain ⟨xa0, xa1, xa2, xa3, xa4, xa5, xa6⟩ := ar a la
    obtain ⟨xb0, xb1, xb2, xb3, xb4, xb5, xb6⟩ := ar b lb
    obtain ⟨xc0, xc1, xc2, xc3, xc4, xc5, xc6⟩ := ar c lc
    have nn : ∀ i j : Nat, i ≠ j → M + i ≠ M + j := fun i j h e => h (by omega)
    have n0 : ∀ j : Nat, j ≠ 0 → M ≠ M + j := fun j h e => h (by omega)
    have mk : ∀ {q u v : Nat}, q ≠ u → q ≠ v → q ∉ [u, v] := fun h1 h2 hm => by
      rcases List.mem_cons.mp hm with e | hm
      · exact h1 e
      · exact h2 (List.mem_singleton.mp hm)
    have hd : ∀ {q v : Nat}, q ∈ [q, v] := List.mem_cons_self
    exact { sep := { TIz := nn 3 5 (by decide), TOz := nn 4 5 (by decide), TITO := nn 3 4 (by decide), TIi1 := (n0 3 (by decide)).symm, mem1 := hd, zf1 := mk (n0 5 (by decide)).symm xa5.symm, Tf1 := mk (n0 4 (by decide)).symm xa4.symm,
                     TIi2 := nn 3 1 (by decide), mem2 := hd, zf2 := mk (nn 5 1 (by decide)) xb5.symm, Tf2 := mk (nn 4 1 (by decide)) xb4.symm,
                     TIi3 := nn 3 2 (by decide), mem3 := hd, zf3 := mk (nn 5 2 (by decide)) xc5.symm, Tf3 := mk (nn 4 2 (by decide)) xc4.symm,
                     sep1_2 := mk (n0 1 (by decide)) xb0.symm, sep1_3 := mk (n0 2 (by decide)) xc0.symm, sep2_1 := mk (n0 1 (by decide)).symm xa1.symm, sep2_3 := mk (nn 1 2 (by decide)) xc1.symm, sep3_1 := mk (n0 2 (by decide)).symm xa2.symm, sep3_2 := mk (nn 2 1 (by decide)) xb2.symm },
            a1 := xa0, b2 := xb1, c3 := xc2, lz := nn 6 5 (by decide), lTI := nn 6 3 (by decide), lTO := nn 6 4 (by decide), l1 := (n0 6 (by decide)).symm, l2 := nn 6 1 (by decide), l3 := nn 6 2 (by decide), la := xa6.symm, lb := xb6.symm, lc := xc6.symm,
            lN := Nat.lt_succ_self _, zN := by omega, i1N := by omega, i2N := by omega, i3N := by omega, TON := by omega }
  -- list.__init__: emptied, then extended
  show wpAny _ _ (do let old ← Builtin.List.listItems (.ref (M + 6)); Builtin.List.listUpdate (.ref (M + 6)) (fun _ => #[]); letGo old.toList.reverse; Builtin.List.listExtendWith (.ref (M + 6)) (.ref (M + 5)) .none) _ _ _
  refine wpAny_bind ?_
  unfold Builtin.List.listItems
  refine wpAny_bind (wpAny_seqItems gL rfl (wpAny_pure ?_))
  show wpAny _ _ (updateSeq (M + 6) (fun _ => #[]) >>= fun _ => letGo (#[] : Array Value).toList.reverse >>= fun _ => Builtin.List.listExtendWith (.ref (M + 6)) (.ref (M + 5)) .none) _ _ _
  refine wpAny_bind (wpAny_updateSeq gL rfl ?_)
  have gL2 := Heap.get?_update_self (Obj.mapSeq (fun _ => (#[] : Array Value))) gL rfl
  refine wpAny_bind (wpAny_letGo ?_)
  unfold Builtin.List.listExtendWith
  have up : ∀ q o, q ≠ M + 6 → h0'.get? q = some o → ((h0'.push { cls := .type "list", data := .seq #[] }).update (M + 6) (Obj.mapSeq fun _ => #[])).get? q = some o := fun q o hq e => (Heap.get?_update_other _ _ (Ne.symm hq)).trans (kp1 q o e)
  have sz6 : ((h0'.push { cls := .type "list", data := .seq #[] }).update (M + 6) (Obj.mapSeq fun _ => #[])).objs.size = M + 7 := by rw [Heap.size_update, z5]
  generalize hG : (h0'.push { cls := .type "list", data := .seq #[] }).update (M + 6) (Obj.mapSeq fun _ => #[]) = G at *
  have zG : IsZip G (M + 5) (M + 3) (M + 4) .none := up _ _ lay.lz.symm hz
  have tyz : ∀ (h : Heap), IsZip h (M + 5) (M + 3) (M + 4) .none → Shared.TypeIs { s with heap := h } (.ref (M + 5)) "zip" := fun h q => ⟨_, q, rfl⟩
  refine wpAny_bind (wpAny_typeOf (T := "zip") (tyz G zG) ?_)
  have w1 : Builtin.List.listSameRef (.ref (M + 6)) (.ref (M + 5)) = false := by simp [Builtin.List.listSameRef]
  have w2 : (Value.type "zip" == Value.type "list") = false := by decide
  have w3 : (Value.type "zip" == Value.type "tuple") = false := by decide
  simp only [w1, w2, w3, Bool.or_false, Bool.false_eq_true, if_false]
  refine wpAny_bind (wpAny_pyIter_zip zG ?_)
  refine wpAny_bind (wpAny_holding ?_)
  unfold Builtin.List.listLengthHint
  refine wpAny_bind (wpAny_specialOf (tyz G zG) zip_no_len ?_)
  show wpAny _ _ (specialOf (Value.ref (M + 5)) (Str.ofString "__length_hint__") >>= _) _ _ _
  refine wpAny_bind (wpAny_specialOf (tyz G zG) zip_no_hint ?_)
  refine wpAny_pure ?_
  -- the loop
  have run : ∀ (h : Heap) (m : Nat), (∀ q o, q ≠ M + 6 → G.get? q = some o → h.get? q = some o) → h.objs.size = M + 7 → h.get? (M + 6) = some { cls := .type "list", dict := none, data := .seq #[] m, slots := #[] } →
      codeAny (model prog w) A.in1 (.builtin "list.extend.loop" ⟨[.ref (M + 6), .ref (M + 5), .none], []⟩) (wants (fun r s₂ => r = .none ∧ Q (.ref (M + 6)) s₂) E) { s with heap := h } := by
    intro h m kp2 szh gh
    have old : ∀ q o, s.heap.get? q = some o → h.get? q = some o := fun q o e => by
      have lt : q < M := by
        rw [← hM]
        exact Heap.lt_size e
      have ne : q ≠ M + 6 := Nat.ne_of_lt (Nat.lt_of_lt_of_le lt (Nat.le_add_right _ _))
      exact kp2 q o ne (up q o ne (kp0 q o e))
    have w : ∀ q o, q ≠ M + 6 → h0'.get? q = some o → h.get? q = some o := fun q o ne e => kp2 q o ne (up q o ne e)
    refine zip_loop (A := A.in1) hh lay e1 e2 e3 h0 h1 .none (n - 0) 0 { s with heap := h } rfl (Nat.zero_le _) ?_ fun h' tk kp fin => ?_
    · exact ⟨szh, fun _ => ⟨w _ _ lay.lz.symm hz, w _ _ lay.lTO.symm hto⟩, fun q => absurd q (Nat.lt_irrefl _), w _ _ lay.lTI.symm hti, ⟨⟨_, w _ _ lay.l1.symm g1, rfl, rfl⟩, ha.at fun o e => old _ _ e⟩, ⟨⟨_, w _ _ lay.l2.symm g2, rfl, rfl⟩, hb.at fun o e => old _ _ e⟩, ⟨⟨_, w _ _ lay.l3.symm g3, rfl, rfl⟩, hc.at fun o e => old _ _ e⟩,
        fun j q => absurd q (Nat.not_lt_zero _), ⟨m, gh⟩⟩
    · refine ⟨rfl, hQ (M + 6) (M + 7) h' tk (Nat.le_add_right _ _) (Nat.lt_succ_self _) (fun q o e => ?_) fin⟩
      have lt : q < M := by
        rw [← hM]
        exact Heap.lt_size e
      have far : ∀ j : Nat, q ≠ M + j := fun j => Nat.ne_of_lt (Nat.lt_of_lt_of_le lt (Nat.le_add_right _ _))
      exact kp q o (far 6) (far 5) (far 4) (far 0) (far 1) (far 2) (old q o e)
  refine wpAny_ite_split (fun _ => ?_) fun _ => wpAny_pure ⟨plainId_quiet F.plain_extend_loop _, run G _ (fun q o _ e => e) sz6 gL2⟩
  refine wpAny_bind (wpAny_rule ?_)
  refine wpAny_bind ?_
  show wpAny _ _ (updateSeq (M + 6) (·.push .none) >>= fun _ => updateSeq (M + 6) (·.pop)) _ _ _
  refine wpAny_bind (wpAny_updateSeq gL2 rfl ?_)
  have gL3 := Heap.get?_update_self (Obj.mapSeq (·.push Value.none)) gL2 rfl
  refine wpAny_updateSeq (hz := by seq_fits) gL3 rfl ?_
  have gL4 := Heap.get?_update_self (Obj.mapSeq (·.pop)) gL3 rfl
  refine wpAny_pure ⟨plainId_quiet F.plain_extend_loop _, run _ _ (fun q o hq e => (Heap.get?_update_other _ _ (Ne.symm hq)).trans ((Heap.get?_update_other _ _ (Ne.symm hq)).trans e)) (by rw [Heap.size_update, Heap.size_update, sz6]) gL4⟩
end
end Ow

/-! ## X0g -/
set_option Elab.async false
set_option linter.all false
set_option maxRecDepth 100000
set_option maxHeartbeats 4000000
/-! own rules, part g: list(zip(a, b, c)) over the layer -/
namespace Ow
open PySem PySem.Spec PyProof.Rows L2
section
variable {X : Cx} {a b c : Expr} {ta : TA} {p p2 pos pos2 : Pos}
def tLz (K : PySem.W.Frag) (ta : TA) : TE := fun σ H Q => ta σ H fun vs H1 => ∃ (a b c : Addr) (xs ys us : List V) (n : Nat), vs = [.ref a, .ref b, .ref c] ∧ SqT K H1 a xs ∧ SqT K H1 b ys ∧ SqT K H1 c us ∧ xs.length = n ∧ ys.length = n ∧ us.length = n ∧ 0 < n ∧ n ≤ 1000 ∧
  ∀ (L : Addr) (ts : List Addr) (H2 : Hp), H1 L = none → Same H1 H2 → H2 L = some (.lst (ts.map V.ref)) → ts.length = n → (∀ j, j < n → ∃ t x y u, ts[j]? = some t ∧ xs[j]? = some x ∧ ys[j]? = some y ∧ us[j]? = some u ∧ H2 t = some (.tup [x, y, u])) → Q (.ref L) H2
theorem vals_back {xs : List V} {its : List Value} (r : Vals xs its) {j : Nat} {v : Value} (h : its[j]? = some v) : ∃ x, xs[j]? = some x ∧ RelV x v := by
  have hl : j < xs.length := by
    rw [r.length]
    exact (List.getElem?_eq_some_iff.mp h).1
  obtain ⟨u, h1, h2⟩ := r.get (List.getElem?_eq_getElem hl)
  rw [h] at h1
  cases h1
  exact ⟨_, List.getElem?_eq_getElem hl, h2⟩
theorem vals_refs2 : ∀ (ts : List Addr), Vals (ts.map V.ref) (ts.map Value.ref)
  | [] => .nil
  | _ :: r => .cons rfl (vals_refs2 r)
theorem pe_listzip (hc : X.calm = true) (gl : Gl X "list") (ml : X.mg "list" = none) (gz : Gl X "zip") (mz : X.mg "zip" = none) (ha : PA X [a, b, c] ta)
    (hs3 : starEach [a, b, c] X.env = (false, eval a X.env) :: starEach [b, c] X.env := by rfl) (hpl : (backTo pos2 (starEach [b, c] X.env)).any (·.1) = false := by rfl)
    (hs1 : starEach [Expr.Call (.Name "zip" p2) [a, b, c] [] pos2] X.env = [(false, eval (.Call (.Name "zip" p2) [a, b, c] [] pos2) X.env)] := by rfl) :
    PE X (.Call (.Name "list" p) [.Call (.Name "zip" p2) [a, b, c] [] pos2] [] pos) (tLz X.K ta) := by
  refine ⟨fun pins s σ H Q I hw => ?_⟩
  refine Call_ (ld_blt I gl ml boot_list (PyProof.Rows.callWith_type1 ?_ hs1 rfl))
  rw [hs1]
  show wpAny _ _ (spliced ((false, eval (.Call (.Name "zip" p2) [a, b, c] [] pos2) X.env) :: backTo pos [])) _ _ s
  refine Calls.spliced_cons ?_
  refine Call_ (ld_blt I gz mz boot_zip (PyProof.Rows.callWith_type1 (thn (ha.run pos2 pins s σ H _ I hw) fun us s1 ⟨vs, H1, I1, r1, q1⟩ => ?_) hs3 hpl))
  obtain ⟨x, y, z, xs, ys, zs, n, e0, h1, h2, h3, n1, n2, n3, n0, n4, q⟩ := q1
  subst e0
  have eus : us = [.ref x, .ref y, .ref z] := by
    cases r1 with
    | cons a1 t1 =>
      cases t1 with
      | cons a2 t2 =>
        cases t2 with
        | cons a3 t3 =>
          cases t3
          cases a1
          cases a2
          cases a3
          rfl
  subst eus
  obtain ⟨i1, v1, t1, _⟩ := I1.tuple h1
  obtain ⟨i2, v2, t2, _⟩ := I1.tuple h2
  obtain ⟨i3, v3, t3, _⟩ := I1.tuple h3
  have l1 : i1.length = n := v1.length.symm.trans n1
  have l2 : i2.length = n := v2.length.symm.trans n2
  have l3 : i3.length = n := v3.length.symm.trans n3
  refine thn (list_zip3 (Q := EP X pins σ Q) (I1.ok.hd hc) t1 t2 t3 (by simpa using l1) (by simpa using l2) (by simpa using l3) n0 n4 fun L N h' tk hL hN kp fin => ?_) fun v s2 hv => Calls.spliced_nil hv
  have J : Inv X pins σ H1 { s1 with heap := h', toks := tk } := I1.kept kp
  have fr : ∀ b : Addr, s1.heap.objs.size ≤ b → H1 b = none := fun b hb => I1.hok.fresh hb
  -- the list
  obtain ⟨mm, gl⟩ := fin.acc
  have J3 : Inv X pins σ (upd H1 L (.lst (((List.range n).map fun j => (N + j : Nat)).map V.ref))) { s1 with heap := h', toks := tk } := J.take (h' := h') (t' := tk) (fun b ob _ e => e) (I1.fpOk hL (fr L hL))
    ⟨by rw [List.length_map, List.length_map, List.length_range, sizeLine_eq]; omega, ((List.range n).map fun j => (N + j : Nat)).map Value.ref, mm, vals_refs2 _, by rw [gl, List.map_map]; rfl⟩
  -- the tuples
  obtain ⟨H2, J2, g2, q2⟩ := L2.DX.takeT (P := fun t vs => ∃ j x y u, t = N + j ∧ xs[j]? = some x ∧ ys[j]? = some y ∧ zs[j]? = some u ∧ vs = [x, y, u]) I1 ((List.range n).map fun j => (N + j : Nat)) _ J3 (by
      rw [List.nodup_iff_pairwise_ne, List.pairwise_map]
      exact List.nodup_range.imp fun h e => h (Nat.add_left_cancel e)) fun t ht => by
    obtain ⟨j, hj, rfl⟩ := List.mem_map.mp ht
    have hj : j < n := List.mem_range.mp hj
    have ge : s1.heap.objs.size ≤ N + j := Nat.le_trans hL (Nat.le_trans (Nat.le_of_lt hN) (Nat.le_add_right _ _))
    obtain ⟨a1, a2, a3, g1, g2, g3, g4⟩ := fin.tups j hj
    obtain ⟨x1, k1, r1⟩ := vals_back v1 (show i1[j]? = some a1 by simpa using g1)
    obtain ⟨x2, k2, r2⟩ := vals_back v2 (show i2[j]? = some a2 by simpa using g2)
    obtain ⟨x3, k3, r3⟩ := vals_back v3 (show i3[j]? = some a3 by simpa using g3)
    exact ⟨ge, by rw [upd_ne (off_ne hN)]; exact fr _ ge, [x1, x2, x3], ⟨j, x1, x2, x3, rfl, k1, k2, k3, rfl⟩, fun H2 => ⟨by show 3 ≤ sizeLine; rw [sizeLine_eq]; omega, [a1, a2, a3], .cons r1 (.cons r2 (.cons r3 .nil)), ⟨_, g4, rfl, _, rfl⟩⟩⟩
  refine ⟨.ref L, _, J2, rfl, q L _ _ (fr L hL) (fun b o e => g2 b o ?_) (g2 L _ upd_same) (by rw [List.length_map, List.length_range]) fun j hj => ?_⟩
  · rw [upd_ne (ne_of_none e (fr L hL))]
    exact e
  · have hm : (N + j : Nat) ∈ (List.range n).map fun j => (N + j : Nat) := List.mem_map.mpr ⟨j, List.mem_range.mpr hj, rfl⟩
    obtain ⟨vs, ⟨j', x1, x2, x3, e1, e2, e3, e4, e5⟩, e6⟩ := q2 _ hm
    have ej : j' = j := Nat.add_left_cancel e1.symm
    subst ej
    exact ⟨N + j', x1, x2, x3, by rw [List.getElem?_map, List.getElem?_range hj]; rfl, e2, e3, e4, by rw [e6, e5]⟩
end
end Ow

/-! ## X0h -/
set_option Elab.async false
set_option linter.all false
set_option maxRecDepth 100000
/-! d.setdefault with a tuple key; dicts with keys (int, int, tuple of ints) -/
namespace Ow
open PySem PySem.Spec PyProof.Rows L2
section
variable {X : Cx} {o e f : Expr} {td ty tx : TE} {apos cpos : Pos}
/-- d.setdefault(y, z), y a tuple -/
def tDSetT (td ty tx : TE) : TE := fun σ H Q => td σ H fun x H1 => ∃ a, x = .ref a ∧ IsD H1 a ∧ ty σ H1 fun y H2 => tx σ H2 fun z H3 => ∃ (kvs : List (List Key × V)) (k : List Key) (b : Addr), H3 a = some (.dT kvs) ∧ y = .ref b ∧ H3 b = some (.tup (k.map kV)) ∧ kvs.length < sizeLine ∧
  (∀ v, valV kvs k = some v → Q v H3) ∧ (valV kvs k = none → Q z (upd H3 a (.dT (putK kvs k z))))
theorem pe_dsetT (hu : X.A.units + 1 < cLine) (ho : PE X o td) (he : PE X e ty) (hf : PE X f tx) (m : M2 X o "setdefault" apos e f cpos) : PE X (.Call (.Attribute o "setdefault" apos) [e, f] [] cpos) (tDSetT td ty tx) := by
  refine ⟨fun pins s σ H Q I h => ?_⟩
  refine wpAny_Call_method m.base m.few m.line PySem.F.plainAttrs_dict PySem.F.slot_dict_setdefault PySem.F.type_dict_setdefault (thn (ho.run pins s σ H _ I h) fun u s1 ⟨x, H1, I1, rx, a, ex, d, q1⟩ => ?_)
  subst ex
  obtain rfl : u = Value.ref a := rx
  obtain ⟨t1, t2, _⟩ := isD_at I1 d
  refine ⟨t1, t2, ?_⟩
  rw [m.trees]
  refine Calls.callWith_builtin rfl (Calls.evalArgs_plain (Calls.spliced_cons (thn (he.run pins s1 σ H1 _ I1 q1) fun iv s2 ⟨y, H2, I2, ry, q2⟩ =>
    Calls.spliced_cons (thn (hf.run pins s2 σ H2 _ I2 q2) fun fv s3 ⟨z, H3, I3, rz, kvs, k, b, ea, ey, eb, hl, q3, q4⟩ => Calls.spliced_nil ?_))))
  subst ey
  cases (show iv = Value.ref b from ry)
  obtain ⟨z1, hd, xs, rel, dd⟩ := dt_of I3.hok ea
  have hz : xs.length ≤ sizeLine := by rw [← Paired.length rel]; exact z1
  have hl : (putK kvs k z).length ≤ sizeLine := by have := length_putK kvs k z; omega
  refine call_setdefault_heap (hsz := hz) (tupleKind_room_in1 hu) (key_of I3.hok eb) hd dd (fun p hp => ?_) fun hn h' dd' hs => ?_
  · have hv := rel.val k
    rw [hp] at hv
    obtain ⟨v, e1, r1⟩ : ∃ v, valV kvs k = some v ∧ RelV v p.2 := by
      cases e : valV kvs k with
      | none => rw [e] at hv; exact hv.elim
      | some v => rw [e] at hv; exact ⟨v, rfl, hv⟩
    exact ⟨v, H3, I3.tok _, r1, q3 v e1⟩
  · have hv := rel.val k
    rw [hn] at hv
    have e1 : valV kvs k = none := by
      cases e : valV kvs k with
      | none => rfl
      | some v => rw [e] at hv; exact hv.elim
    obtain ⟨q, es, ep, hq, h2, h3, h4, _, h5⟩ := dd'
    refine ⟨z, _, d_write (ob := .dT (putK kvs k z)) (t' := s3.toks + _) I3 (by rw [ea]; exact True.intro) hs ⟨q, hq⟩ ⟨hl, hd, _, (rel.put k eb rz).keeps fun c ys ec => ?_, q, es, ep, hq, h2, h3, h4, h5⟩, rz, q4 e1⟩
    rw [upd_ne (ne_of ec ea (fun z => nomatch z))]
    exact ec
end
/-! ### keys (i, j, (n, ..)) -/
abbrev K3 := Int × Int × List Int
def nk3 (k : K3) : NestedKey := .tup [.num k.1, .num k.2.1, .tup (k.2.2.map .num)]
theorem num_inj : ∀ xs ys : List Int, xs.map NestedKey.num = ys.map NestedKey.num → xs = ys
  | [], [], _ => rfl
  | [], _ :: _, h => by cases h
  | _ :: _, [], h => by cases h
  | x :: xs, y :: ys, h => by
    rw [List.map_cons, List.map_cons] at h
    injection h with h1 h2
    injection h1 with h1
    rw [h1, num_inj xs ys h2]
theorem nk3_inj {k l : K3} (h : nk3 k = nk3 l) : k = l := by
  obtain ⟨a, b, c⟩ := k
  obtain ⟨a', b', c'⟩ := l
  simp only [nk3, NestedKey.tup.injEq, List.cons.injEq, NestedKey.num.injEq, and_true] at h
  rw [h.1, h.2.1, num_inj _ _ h.2.2]
theorem nums_depth : ∀ xs : List Int, NestedKey.depthAll (xs.map NestedKey.num) = 0
  | [] => by simp [NestedKey.depthAll]
  | x :: xs => by simp [NestedKey.depthAll, NestedKey.depth, nums_depth xs]
theorem nk3_depth (k : K3) : (nk3 k).depth ≤ 8 := by
  simp [nk3, NestedKey.depth, NestedKey.depthAll, nums_depth]
def At3 (H : Hp) (p : Addr) (k : K3) : Prop := ∃ q, H p = some (.tup [.int k.1, .int k.2.1, .ref q]) ∧ H q = some (.tup (k.2.2.map V.int))
theorem At3.same {H H' : Hp} {p : Addr} {k : K3} (h : At3 H p k) (s : Same H H') : At3 H' p k := let ⟨q, h1, h2⟩ := h; ⟨q, s _ _ h1, s _ _ h2⟩
theorem nums_all {h : Heap} : ∀ {xs : List Int} {us : List Value}, Vals (xs.map V.int) us → NestedAll h (xs.map .num) us
  | [], _, r => by cases r; exact .nil
  | x :: xs, _, r => by
    cases r with
    | cons r1 r2 =>
      obtain ⟨t, rfl⟩ := r1
      exact .cons (.int x t) (nums_all r2)
section
variable {P : Program} {w : World} {H : Hp} {h : Heap}
theorem at3_is {p : Addr} {k : K3} (ok : HOk P w H h) (e : At3 H p k) : (nestedKind P w).is h (nk3 k) p := by
  obtain ⟨q, e1, e2⟩ := e
  obtain ⟨_, its, r, o, h1, h2, n, h3⟩ := (show ObjOk P w H h p (.tup [.int k.1, .int k.2.1, .ref q]) from ok p _ e1)
  obtain ⟨_, its2, r2, o2, h12, h22, n2, h32⟩ := (show ObjOk P w H h q (.tup (k.2.2.map V.int)) from ok q _ e2)
  cases r with
  | cons ra r =>
    cases r with
    | cons rb r =>
      cases r with
      | cons rc r =>
        cases r
        obtain ⟨t1, rfl⟩ := ra
        obtain ⟨t2, rfl⟩ := rb
        cases rc
        refine ⟨.tup h1 h2 h3 ?_, nk3_depth k⟩
        exact .cons (.int _ _) (.cons (.int _ _) (.cons (.tup h12 h22 h32 (by simpa using nums_all r2)) .nil))
def ents (xs : List (K3 × Addr)) : List (NestedKey × Addr × Value) := xs.map fun x => (nk3 x.1, x.2, Value.bool true)
def nd3 (P : Program) (w : World) (d : Addr) (xs : List (K3 × Addr)) : HO := .ext fun h => ∃ o es ep, h.get? d = some o ∧ o.ExactDict ∧ o.data = .dict es ep ∧ es.toList = (ents xs).map (entryOfKey (nestedKind P w)) ∧ (d == sysModules) = false
structure D3 (P : Program) (w : World) (H : Hp) (d : Addr) (xs : List (K3 × Addr)) : Prop where
  at_ : H d = some (nd3 P w d xs)
  keys : ∀ x ∈ xs, At3 H x.2 x.1
  nodup : (xs.map (·.1)).Nodup
  few : xs.length ≤ sizeLine
theorem D3.same {H' : Hp} {d : Addr} {xs : List (K3 × Addr)} (D : D3 P w H d xs) (s : Same H H') : D3 P w H' d xs :=
  ⟨s _ _ D.at_, fun x hx => (D.keys x hx).same s, D.nodup, D.few⟩
theorem ents_nodup {xs : List (K3 × Addr)} (h : (xs.map (·.1)).Nodup) : ((ents xs).map (·.1)).Nodup := by
  have e : (ents xs).map (·.1) = (xs.map (·.1)).map nk3 := by simp [ents, List.map_map]
  rw [e]
  exact List.Pairwise.map nk3 (fun a b hab z => hab (nk3_inj z)) h
theorem D3.dict {d : Addr} {xs : List (K3 × Addr)} (ok : HOk P w H h) (D : D3 P w H d xs) : (d == sysModules) = false ∧ h.DictOfH (nestedKind P w) d (ents xs) := by
  obtain ⟨⟨o, es, ep, h1, h2, h3, h4, h5⟩, _, _⟩ := ok d _ D.at_
  refine ⟨h5, o, es, ep, h1, h2, h3, h4, fun x hx => ?_, ents_nodup D.nodup⟩
  obtain ⟨y, hy, rfl⟩ := List.mem_map.mp hx
  exact at3_is ok (D.keys y hy)
theorem ents_at (xs : List (K3 × Addr)) (k : K3) : (atKey (ents xs) (nk3 k)).isSome = decide (k ∈ xs.map (·.1)) := by
  induction xs with
  | nil => rfl
  | cons x xs ih =>
    by_cases e : x.1 = k
    · have : atKey (ents (x :: xs)) (nk3 k) = some (x.2, Value.bool true) := by simp [atKey, ents, List.find?_cons, e]
      rw [this]
      simp [e]
    · have e' : ¬ nk3 x.1 = nk3 k := fun z => e (nk3_inj z)
      have : atKey (ents (x :: xs)) (nk3 k) = atKey (ents xs) (nk3 k) := by simp [atKey, ents, List.find?_cons, e']
      rw [this, ih]
      have e2 : ¬ k = x.1 := fun z => e z.symm
      simp [e2]
end
section
variable {X : Cx} {pos : Pos} {o i e value : Expr} {pos' : Pos} {td ty tv : TE}
def tNew3 (P : Program) (w : World) : TE := fun _ H Q => ∀ p, H p = none → Q (.ref p) (upd H p (nd3 P w p []))
theorem nd3_stays {P : Program} {w : World} {d : Addr} {xs : List (K3 × Addr)} (h1 h2 : Heap)
    (p : ∃ o es ep, h1.get? d = some o ∧ o.ExactDict ∧ o.data = .dict es ep ∧ es.toList = (ents xs).map (entryOfKey (nestedKind P w)) ∧ (d == sysModules) = false) (k : ∀ o, h1.get? d = some o → h2.get? d = some o) :
    ∃ o es ep, h2.get? d = some o ∧ o.ExactDict ∧ o.data = .dict es ep ∧ es.toList = (ents xs).map (entryOfKey (nestedKind P w)) ∧ (d == sysModules) = false := by
  obtain ⟨o, es, ep, h1, h2⟩ := p
  exact ⟨o, es, ep, k o h1, h2⟩
theorem pe_dnew3 : PE X (.Dict [] [] pos) (tNew3 X.prog X.w) := ⟨fun pins s σ H Q I h => by
  have hb := I.big
  have g : (s.heap.push { cls := .type "dict", data := .dict #[] }).get? s.heap.objs.size = some { cls := .type "dict", data := .dict #[] } := Heap.get?_push_size _ rfl
  refine wpAny_Dict_empty ⟨.ref s.heap.objs.size, _, I.laid (a := s.heap.objs.size) (o := nd3 X.prog X.w s.heap.objs.size []) (t' := s.toks) (fun _ _ q => Heap.get?_push_of_some _ q) (Nat.le_refl _) ?_, rfl, h _ (I.hok.fresh (Nat.le_refl _))⟩
  exact ⟨⟨_, #[], 0, g, ⟨rfl, rfl, rfl⟩, rfl, rfl, beq_eq_false_iff_ne.mpr (Ne.symm (Nat.ne_of_lt hb))⟩, ⟨_, g⟩, nd3_stays⟩⟩
theorem D3.new {P : Program} {w : World} {H : Hp} {p : Addr} : D3 P w (upd H p (nd3 P w p [])) p [] := ⟨upd_same, (fun _ z => (List.not_mem_nil z).elim), List.nodup_nil, Nat.zero_le _⟩
/-- y not in d -/
def tNotIn3 (P : Program) (w : World) (ty td : TE) : TE := fun σ H Q => ty σ H fun y H1 => td σ H1 fun x H2 => ∃ (a b : Addr) (xs : List (K3 × Addr)) (k : K3), x = .ref a ∧ y = .ref b ∧ D3 P w H2 a xs ∧ At3 H2 b k ∧ Q (.bl (!decide (k ∈ xs.map (·.1)))) H2
theorem pc_notin3 (hu : X.A.units + 10 < cLine) (hi : PE X i ty) (ho : PE X o td) : PC X .NotIn i o (tNotIn3 X.prog X.w ty td) := by
  refine ⟨fun pins s σ H Q I h => ?_⟩
  refine thn (hi.run pins s σ H _ I h) fun iv s1 ⟨y, H1, I1, ry, q1⟩ => thn (ho.run pins s1 σ H1 _ I1 q1) fun u s2 ⟨x, H2, I2, rx, a, b, xs, k, ex, ey, D, hk, q2⟩ => ?_
  subst ex ey
  obtain rfl : u = Value.ref a := rx
  obtain rfl : iv = Value.ref b := ry
  obtain ⟨hd, dd⟩ := D.dict I2.hok
  refine wpAny_notIn_heap (show X.A.in1.units + 8 < cLine from by show X.A.units + 1 + 8 < cLine; omega) (at3_is I2.hok hk) hd dd ?_
  rw [ents_at]
  exact ⟨.bl _, H2, I2.tok _, rfl, q2⟩
/-- d[y] = True, y not there -/
def sPut3 (P : Program) (w : World) (td ty tv : TE) : TS := fun D σ H => tv σ H fun v H1 => td σ H1 fun x H2 => ty σ H2 fun y H3 => ∃ (a b : Addr) (xs : List (K3 × Addr)) (k : K3), v = .bl true ∧ x = .ref a ∧ y = .ref b ∧ D3 P w H3 a xs ∧ At3 H3 b k ∧ k ∉ xs.map (·.1) ∧ xs.length < sizeLine ∧
  D.nx σ (upd H3 a (nd3 P w a (xs ++ [(k, b)])))
theorem D3.put {P : Program} {w : World} {H : Hp} {a b : Addr} {xs : List (K3 × Addr)} {k : K3} (D : D3 P w H a xs) (hk : At3 H b k) (hn : k ∉ xs.map (·.1)) (hl : xs.length < sizeLine) : D3 P w (upd H a (nd3 P w a (xs ++ [(k, b)]))) a (xs ++ [(k, b)]) := by
  have keep : ∀ p l, At3 H p l → At3 (upd H a (nd3 P w a (xs ++ [(k, b)]))) p l := fun p l ⟨q, h1, h2⟩ => by
    refine ⟨q, ?_, ?_⟩
    · rw [upd_ne (ne_of h1 D.at_ fun z => nomatch z)]; exact h1
    · rw [upd_ne (ne_of h2 D.at_ fun z => nomatch z)]; exact h2
  refine ⟨upd_same, fun x hx => ?_, ?_, ?_⟩
  · rcases List.mem_append.mp hx with z | z
    · exact keep _ _ (D.keys x z)
    · rw [List.mem_singleton.mp z]; exact keep _ _ hk
  · rw [List.map_append]
    refine List.nodup_append.mpr ⟨D.nodup, by simp, fun x hx y hy z => ?_⟩
    rw [List.map_singleton, List.mem_singleton] at hy
    have hy' : y = k := hy
    exact hn (by rw [← hy', ← z]; exact hx)
  · rw [List.length_append]; exact hl
theorem ps_put3 (hu : X.A.units + 10 < cLine) (ho : PE X o td) (hi : PE X i ty) (hv : PE X value tv) (hs : swapsWith value (some (.Subscript o i pos')) pos.line X.env = pure false) :
    PS X (.Assign [.Subscript o i pos'] value pos) (sPut3 X.prog X.w td ty tv) := by
  refine ⟨fun pins s σ H D I h => ?_⟩
  refine wpAny_Assign_Subscript (thn (hv.run pins s σ H _ I h) fun r s1 ⟨v, H1, I1, rv, q1⟩ => thn (ho.run pins s1 σ H1 _ I1 q1) fun u s2 ⟨x, H2, I2, rx, q2⟩ => thn (hi.run pins s2 σ H2 _ I2 q2) fun iv s3 ⟨y, H3, I3, ry, a, b, xs, k, ev, ex, ey, DD, hk, hn, hl, q3⟩ => ?_) hs
  subst ev ex ey
  obtain rfl : u = Value.ref a := rx
  obtain rfl : iv = Value.ref b := ry
  obtain rfl : r = Value.bool true := rv
  obtain ⟨hd, dd⟩ := DD.dict I3.hok
  have hz : (ents xs).length ≤ sizeLine := by unfold ents; rw [List.length_map]; exact DD.few
  refine wpAny_setItem_heap (hsz := hz) (show X.A.in1.units + 8 < cLine from by show X.A.units + 1 + 8 < cLine; omega) (at3_is I3.hok hk) dd fun h' dd' hs => ⟨σ, _, ?_, q3⟩
  obtain ⟨q, es, ep, hq, h2, h3, h4, _, h5⟩ := dd'
  have hnone : atKey (ents xs) (nk3 k) = none := by
    have z := ents_at xs k
    rw [decide_eq_false hn] at z
    cases e : atKey (ents xs) (nk3 k) with
    | none => rfl
    | some v => rw [e] at z; cases z
  rw [storedH_new hnone] at h4
  have e4 : ents xs ++ [(nk3 k, b, Value.bool true)] = ents (xs ++ [(k, b)]) := by simp [ents]
  rw [e4] at h4
  refine d_write (t' := s3.toks + _) I3 (by rw [DD.at_]; exact True.intro) hs ⟨q, hq⟩ ?_
  exact ⟨⟨q, es, ep, hq, h2, h3, h4, hd⟩, ⟨q, hq⟩, nd3_stays⟩
end
end Ow

/-! ## X0i -/
set_option Elab.async false
set_option linter.all false
set_option maxRecDepth 100000
/-! d.items() of a locked dict with tuple keys; a display with one pair, its key a tuple -/
namespace Ow
open PySem PySem.Spec PyProof.Rows L2 PySem.W
section
variable {X : Cx} {pins : List (Addr × Obj)} {σ : L2.St} {H : Hp} {s : Shared} {d : Addr} {o : Obj}
theorem frzTv {kvs : List (List Key × V)} (I : Inv X pins σ H s) (h : H d = some (.frz o (.dT kvs))) :
    (d == sysModules) = false ∧ s.heap.get? d = some o ∧ o.ExactDict ∧ ∃ (es : Array DictEntry) (ep : Nat), o.data = .dict es ep ∧ es.size = kvs.length ∧
      ∀ (i : Nat) (k : List Key) (v : V), kvs[i]? = some (k, v) → ∃ (en : DictEntry) (q : Addr), es[i]? = some en ∧ en.key = .ref q ∧ H q = some (.tup (k.map kV)) ∧ RelV v en.val := by
  obtain ⟨hd, z, hs, xs, pr, o', es, ep, ho, hx, hdt, he, _⟩ := I.hok d _ h
  rw [hd] at ho
  cases ho
  refine ⟨hs, hd, hx, es, ep, hdt, ?_, fun i k v e => ?_⟩
  · have l1 : es.size = xs.length := size_of_entries he
    have l2 : kvs.length = xs.length := Paired.length pr
    omega
  · obtain ⟨b, hb, e1, e2, e3⟩ := paired_get pr e
    have q := entry_at he i
    rw [hb] at q
    exact ⟨_, b.2.1, q, rfl, e2, e3⟩
end
/-- the pairs of a locked dict with tuple keys, each a new tuple -/
def ItiT (d : Addr) (o : Obj) (kvs : List (List Key × V)) : It :=
  ⟨fun i H => H d = some (.frz o (.dT kvs)) ∧ i < kvs.length, fun i H x H' => ∃ (T : Addr) (k : List Key) (v : V) (q : Addr), kvs[i]? = some (k, v) ∧ x = .ref T ∧ H T = none ∧ H q = some (.tup (k.map kV)) ∧ H' = upd H T (.tup [.ref q, v]), fun i H => H d = some (.frz o (.dT kvs)) ∧ kvs.length ≤ i⟩
section
variable {P : Program} {w : World} {K : PySem.W.Frag} {tg : Expr} {d : Addr} {o : Obj} {es : Array DictEntry} {ep : Nat}
theorem turn_itemsT {kvs : List (List Key × V)} {elts : List Expr} {kk : Nat} {tpos : Pos} (it : Addr) (hod : o.data = .dict es ep) :
    Turn P w K (.Tuple elts kk tpos) (ItiT d o kvs) [it] it (fun i h => ∃ ok ov, IsItemIter h it d i kvs.length ep ok ov) where
  mem := by simp
  obj := fun i h st b hb => by
    have e : b = it := by simpa using hb
    subst e
    obtain ⟨ok, ov, e⟩ := st
    exact ⟨_, e, fun v z => nomatch z⟩
  keep := fun i h h' st k => let ⟨ok, ov, e⟩ := st; ⟨ok, ov, k it (by simp) _ e⟩
  item := by
    intro X hP hw hK hc i pins s σ H E I hf st hg
    subst hP hw hK
    obtain ⟨hd, hi⟩ := hg
    obtain ⟨hs, hgd, hx, es', ep', hdt, hsz, ent⟩ := frzTv I hd
    obtain ⟨rfl, rfl⟩ := dict_ep hod hdt
    obtain ⟨⟨k, v⟩, hkv⟩ : ∃ p, kvs[i]? = some p := ⟨kvs[i], List.getElem?_eq_getElem hi⟩
    obtain ⟨en, q, hen, hkey, hq, hv⟩ := ent i k v hkv
    obtain ⟨ok, ov, he⟩ := st
    rw [← hsz] at he
    have hlt : it < s.heap.objs.size := Heap.lt_size he
    have hi' : i < es'.size := by omega
    have een : es'[i] = en := by
      rw [Array.getElem?_eq_getElem hi'] at hen
      exact Option.some.inj hen
    refine DT.nextI he ⟨o, hgd, hx, hdt⟩ hi' fun h' ho hT hz hk => ?_
    rw [een] at ho hT
    refine ⟨_, rfl, wpAny_letOwnedTupleGo_items (s := { s with heap := h' }) ho fun h'' he' sb => ?_⟩
    have hT2 : h''.get? s.heap.objs.size = some { cls := .type "tuple", data := .seq #[en.key, en.val] } := (sb.2 _ (Nat.ne_of_gt hlt)).trans hT
    have new : ObjOk X.prog X.w (upd H s.heap.objs.size (.tup [.ref q, v])) h'' s.heap.objs.size (.tup [.ref q, v]) :=
      ⟨by show 2 ≤ sizeLine; decide, [en.key, en.val], .cons hkey (.cons hv .nil), ⟨_, hT2, rfl, _, rfl⟩⟩
    have I1 : Inv X pins σ (upd H s.heap.objs.size (.tup [.ref q, v])) { s with heap := h'' } :=
      I.turnedNew (t' := s.toks) (ch := [it]) (fun b ob hb e => (sb.2 b (by simpa using hb)).trans (hk b ob (by simpa using hb) e)) hf (Nat.le_refl _) new
    refine ⟨.ref s.heap.objs.size, _, I1, rfl, ⟨_, k, v, q, hkv, rfl, I.hok.fresh (Nat.le_refl _), hq, rfl⟩, ⟨en.key, en.val, ?_⟩, fun b hb => ?_⟩
    · rw [← hsz]; exact he'
    · have e : b = it := by simpa using hb
      rw [e, upd_ne (Nat.ne_of_lt hlt)]
      exact (hf it (by simp)).1
  done := by
    intro X hP hw hK hc i pins s σ H E I hf st hg
    subst hP hw hK
    obtain ⟨hd, hi⟩ := hg
    obtain ⟨f0, f1, f2, f3, f4, f5⟩ := hf it (by simp)
    obtain ⟨hs, hgd, hx, es', ep', hdt, hsz, ent⟩ := frzTv I hd
    obtain ⟨rfl, rfl⟩ := dict_ep hod hdt
    obtain ⟨ok, ov, he⟩ := st
    rw [← hsz] at he
    exact DT.endI (I.ok.hd hc) he ⟨o, hgd, hx, hdt⟩ (by omega) fun h' eb => ⟨rfl, I.turned (t' := s.toks) (fun b ob hb e => eb b ob hb e) f0 f1 f3 f4 f5⟩
  self := fun A i s Q E st h => let ⟨_, _, e⟩ := st; PySem.W.kcp_self e h
end
def iItemsT (td : TE) : TI := fun σ H R => td σ H fun x H1 => ∃ d o kvs, x = .ref d ∧ H1 d = some (.frz o (.dT kvs)) ∧ R (ItiT d o kvs) H1
section
variable {X : Cx} {tg e : Expr} {td : TE} {apos cpos : Pos}
theorem pi_itemsT {elts : List Expr} {kk : Nat} {tpos : Pos} (he : PE X e td) (hbase : attributeBase e "items" X.env (eval e X.env) = eval e X.env := by rfl) (hline : (apos.endLine == cpos.line) = true := by rfl) :
    PI X (.Tuple elts kk tpos) (.Call (.Attribute e "items" apos) [] [] cpos) (iItemsT td) := by
  refine ⟨fun pins s σ H R I h => ?_⟩
  refine wpAny_Call_method (T := "dict") (id := "dict.items") hbase rfl hline F.plainAttrs_dict F.slot_dict_items F.type_dict_items (thn (he.run pins s σ H _ I h) fun u s1 ⟨x, H1, I1, rx, d, o, kvs, ex, hd, q⟩ => ?_)
  subst ex
  obtain rfl : u = Value.ref d := rx
  obtain ⟨hs, hgd, hx, es, ep, hdt, hsz, ent⟩ := frzTv I1 hd
  have raw : DT.Raw s1.heap d es ep := ⟨o, hgd, hx, hdt⟩
  refine ⟨raw.typeIs, fun b q => by cases q; exact ⟨o, hgd, hx.2.1⟩, ?_⟩
  have I2 : Inv X pins σ H1 { s1 with heap := s1.heap.push { cls := .type "dict_items", data := .fields #[.ref d] } } := I1.kept (t' := s1.toks) fun b ob q => Heap.get?_push_of_some _ q
  have fin : wpAny (model X.prog X.w) X.A (pyIter (.ref s1.heap.objs.size)) (PIE X pins σ (.Tuple elts kk tpos) R) X.xe { s1 with heap := s1.heap.push { cls := .type "dict_items", data := .fields #[.ref d] } } := by
    refine DT.iterI (d := d) (es := es) (ep := ep) ⟨_, Heap.get?_push_size _ rfl, rfl, rfl⟩ (raw.push _) (pi_one (tk := s1.toks) I2 _ (turn_itemsT _ hdt) ⟨.none, .none, ?_⟩ q)
    rw [← hsz]
    exact Heap.get?_push_size _ rfl
  show wpAny _ _ (callWith cpos (.builtin "dict.items") [.ref d] [] []) _ X.xe s1
  exact method_meetsIn F.slot_dict_items F.entry_dict_items rfl (PySem.evalArgs_none ⟨rfl, raw.typeIs, F.args_dict_items_1 _, _, DT.meetsItems (es := es) (ep := ep) hs, raw, fin⟩)
end
section
variable {X : Cx} {ek ev : Expr} {tk tv : TE} {pos : Pos}
/-- {k: v}, the key a tuple -/
def tDisp1 (tk tv : TE) : TE := fun σ H Q => ∀ p, H p = none → tk σ (upd H p (.dT [])) fun x H1 => tv σ H1 fun y H2 => H2 p = some (.dT []) ∧ ∃ (b : Addr) (k : List Key), x = .ref b ∧ H2 b = some (.tup (k.map kV)) ∧ Q (.ref p) (upd H2 p (.dT [(k, y)]))
theorem pe_disp1 (hu : X.A.units + 10 < cLine) (hk : PE X ek tk) (hv : PE X ev tv) : PE X (.Dict [some ek] [ev] pos) (tDisp1 tk tv) := by
  refine ⟨fun pins s σ H Q I q => ?_⟩
  have hn := I.hok.fresh (Nat.le_refl s.heap.objs.size)
  have I1 := I.laid (a := s.heap.objs.size) (o := .dT []) (h' := s.heap.push { cls := .type "dict", data := .dict #[] }) (t' := s.toks) (fun _ _ q => Heap.get?_push_of_some _ q) (Nat.le_refl _) (dt_empty s.heap I.big)
  rw [arm_eval_Dict, zip_pairTrees [some ek] [ev] X.env pos rfl rfl, dictDisplay_pairs (pairTrees [some ek] [ev] X.env pos) (by unfold pairTrees; exact fun z => nomatch z) (by rw [pairTrees_length [some ek] [ev] X.env pos rfl rfl]; simp)]
  refine wpAny_bind (wpAny_standAt (wpAny_bind (wpAny_subDictH (knd := tupleKind (mixKind X.prog X.w)) (Q := fun d s' => wpAny (model X.prog X.w) X.A (pure (Value.ref d)) _ X.xe s') (show X.A.units < cLine from by omega) (by rw [pairTrees_length [some ek] [ev] X.env pos rfl rfl]; simp) ?_)))
  refine pairTrees_cons_walk (thn (hk.run pins _ σ _ _ I1 (q _ hn)) fun u s1 ⟨x, H1, I1, rx, q1⟩ => thn (hv.run pins s1 σ H1 _ I1 q1) fun vv s2 ⟨y, H2, I2, ry, e, b, k, ex, eb, q2⟩ => pairTrees_nil_walk ?_)
  subst ex
  obtain rfl : u = Value.ref b := rx
  obtain ⟨z, hd, vs0, r0, dd⟩ := dt_of I2.hok e
  cases r0
  refine ⟨[(k, b, vv)], ⟨rfl, rfl, key_of I2.hok eb, trivial⟩, dd, fun h' tk' dd' hs => wpAny_pure ?_⟩
  obtain ⟨qo, es, ep, hq, h2, h3, h4, h5, h6⟩ := dd'
  have hbp : b ≠ s.heap.objs.size := ne_of eb e fun z => nomatch z
  have kt : KT (upd H2 s.heap.objs.size (.dT [(k, y)])) [(k, y)] [(k, b, vv)] := .cons ⟨rfl, by rw [upd_ne hbp]; exact eb, ry⟩ .nil
  exact ⟨.ref s.heap.objs.size, _, d_write (ob := .dT [(k, y)]) (t' := tk') I2 (by rw [e]; exact True.intro) hs ⟨qo, hq⟩ ⟨by show 1 ≤ sizeLine; decide, hd, _, kt, qo, es, ep, hq, h2, h3, h4, h6⟩, rfl, q2⟩
end
end Ow

/-! ## X1 -/
set_option Elab.async false
set_option linter.all false
set_option maxRecDepth 100000
set_option maxHeartbeats 2000000
/-! An own error over ValueError whose __init__ says super().__init__('..'), then self.f = v. -/
namespace Ow
open PySem PySem.Spec PyProof.Rows L2 PySem.W
/-- the body -/
abbrev sBody (t : Str) (j : Nat) (F : Str) (p0 p1 p2 p3 p4 p5 p6 p7 p8 p9 : Pos) : List Stmt :=
  [.Expr (.Call (.Attribute (.Call (.Name "super" p0) [] [] p1) "__init__" p2) [.Constant (.str t) j p3] [] p4) p5, .Assign [.Attribute (.Name "self" p6) F p7] (.Name F p8) p9]
/-- what the written part says of the class's __init__ and of what it reaches -/
structure SuI (K : Frag) (P : Program) (C : Addr) (F : Str) (qual : Str) (params : Arguments) (body : List Stmt) (scope : Scope) (f : Addr) (fd : FuncData) : Prop where
  ex : ∃ (oc : Value) (od : Option Addr) (kV doc pm : Value) (an : Option Addr) (ct : Value) (osl : Array (Option Value)) (cda cc : Addr) (ccl cl : Value) (cdd cld : Option Addr) (vs : Array Value) (ccs csl : Array (Option Value)) (file : Str) (tf : Tok) (ar : Arg),
    fd = ksFn "__init__" qual params body scope .none kV doc pm an (.ref cda) ct cc ∧ K.lookup f = some ⟨oc, od, .func fd, osl⟩ ∧ codeIn K (.ref cda) qual = true ∧ K.lookup cda = some ⟨ccl, cdd, .fields vs, ccs⟩ ∧ vs[2]? = some (.str file tf) ∧ ((P.main.file : Str) == file) = true ∧
      K.lookup cc = some ⟨cl, cld, .cell (some (.ref C)), csl⟩ ∧ (params.posonlyargs ++ params.args).head? = some ar ∧ ar.arg = "self"
  sub : mroIn K C (.ref C) = some true
  sup : ks_superIn K C C "__init__" = some (some (.builtin "ValueError.__init__"))
  opq : nsIn K cStatics "thirdparty.any" = some none
  ve : subIn K (.ref C) (.type "ValueError") = some true
  htop : (P.main.scope.names.lookup ("super" : Str)).isSome = false
  l1 : scope.names.lookup ("super" : Str) = some .globalImplicit
  l2 : scope.names.lookup ("__class__" : Str) = some .free
  l3 : scope.names.lookup ("self" : Str) = some .local
  l4 : scope.names.lookup F = some .local
  nc : ∀ x ∈ scope.names, x.2 ≠ .cell
  nf : ∀ x ∈ scope.names, x.2 = .free → x.1 = "__class__"
  kind : scope.kind = .function
  co : scope.isCoroutine = false
  gen : scope.isGenerator = false
/-- the promise -/
def spSu (K : Frag) (C : Addr) (F : Str) : Sp := fun vs H Q _ => ∃ (a : Addr) (v : V), vs = [.ref a, v] ∧ H a = some (exo a C none) ∧ findIn K (.ref C) F = some none ∧ ∀ dx, H dx = none → dx ≠ a → Q .non (upd (upd H dx (exd dx [(F, v)])) a (exo a C (some dx)))
/-- the context of its body -/
def suCx (P : Program) (w : World) (K : Frag) (mg : Str → Option Value) (base : Heap) (F qual : Str) (scope : Scope) (f : Addr) (cda cc : Addr) (A : Around) (outer : List Env) (s : Shared) (H : Hp) : Cx where
  prog := P
  w := w
  K := K
  mg := mg
  base := base
  A := A.deeper (ksEnv qual scope s.heap.objs.size f (.ref cda) cc)
  N := ["self", F]
  s_0 := s
  H_0 := H
  env := ksEnv qual scope s.heap.objs.size f (.ref cda) cc
  outer := outer
  stack := ksEnv qual scope s.heap.objs.size f (.ref cda) cc :: outer
  ex := []
  fn := fun _ => false
  calm := true
  pn := []
  xe := fun _ _ => False
theorem one_cell {x : Str} {c cc : Addr} (h : ([("__class__", cc)] : List (Str × Addr)).lookup x = some c) : x = "__class__" ∧ c = cc := by
  by_cases e : x = "__class__"
  · subst e
    simp [List.lookup] at h
    exact ⟨rfl, h.symm⟩
  · have e' : (x == ("__class__" : Str)) = false := by simpa using e
    simp [List.lookup, e'] at h
theorem su_start {P : Program} {w : World} {K : Frag} {mg : Str → Option Value} {base : Heap} {F qual : Str} {params : Arguments} {body : List Stmt} {scope : Scope} {f C cda cc : Addr} {fd : FuncData} {A : Around} {outer : List Env} {s : Shared} {H : Hp} {h₁ : Heap} {tk : Nat}
    {u0 u1 : Value} {a : Addr} {v : V} {cl : Value} {cld : Option Addr} {csl : Array (Option Value)} {vC : Option Value} (T : SuI K P C F qual params body scope f fd) (e0 : Env0 P w K mg base A outer s H) (hd : A.handled = none) (hF : F ≠ "self") (hcell : K.lookup cc = some ⟨cl, cld, .cell vC, csl⟩)
    (r0 : RelV (.ref a) u0) (r1 : RelV v u1) (hns : h₁.Ns s.heap.objs.size fun y => ([("self", u0), (F, u1)] : List (Str × Value)).reverse.lookup y) (kp : ∀ b o, s.heap.get? b = some o → h₁.get? b = some o) :
    Inv (suCx P w K mg base F qual scope f cda cc A outer s H) [] [some (.ref a), some v] H { s with heap := h₁, toks := tk } := by
  have noA : ∀ b : Addr, b ∉ (suCx P w K mg base F qual scope f cda cc A outer s H).ex := fun b z => absurd (show b ∈ ([] : List Addr) from z) (by simp)
  have cB : base.get? cc = some ⟨cl, cld, .cell vC, csl⟩ := e0.mod.kin _ _ hcell
  have cS := e0.bs _ _ cB
  refine ⟨⟨e0.mod, T.kind, rfl, rfl, Nat.le_refl _, fun y z c e1 e2 => ?_, fun y hy => ?_, fun y c z _ => ?_, fun _ => hd, Around.frames_deeper e0.frames, .inr ⟨rfl, rfl⟩, fun b z => absurd z (noA b), e0.bs, e0.bsz, fun b _ _ => noA b, fun b z => absurd z (noA b), e0.funs, e0.frf⟩,
    rfl, e0.bare, Un.kept kp, ⟨_, hns, fun i y x e1 e2 e3 => ?_⟩, fun y c e => ?_, e0.hok.fresh (Nat.le_refl _), fun y c e => ?_, fun q hq => absurd (show q ∈ ([] : List (Addr × Obj)) ++ [] from hq) (by simp), e0.hok.kept kp, rfl⟩
  · exact (one_cell e1).1.trans (one_cell e2).1.symm
  · have hy : scope.names.lookup y = some .cell ∨ scope.names.lookup y = some .free := hy
    rcases hy with hy | hy
    · exact absurd rfl (T.nc _ (PySem.mem_of_lookup hy))
    · have e : y = "__class__" := T.nf _ (PySem.mem_of_lookup hy) rfl
      rw [e]
      exact ⟨cc, rfl⟩
  · have z : false = true := z
    cases z
  · match i, e1, e2 with
    | 0, e1, e2 =>
      have e1' : (some "self" : Option Str) = some y := e1
      have e2' : (some (some (.ref a)) : Option (Option V)) = some (some x) := e2
      cases e1'
      cases e2'
      refine ⟨u0, r0, .inl ⟨T.l3, ?_⟩⟩
      have n : (("self" : Str) == F) = false := by simpa using (Ne.symm hF)
      simp [List.lookup, n]
    | 1, e1, e2 =>
      have e1' : (some F : Option Str) = some y := e1
      have e2' : (some (some v) : Option (Option V)) = some (some x) := e2
      cases e1'
      cases e2'
      exact ⟨u1, r1, .inl ⟨T.l4, by simp [List.lookup]⟩⟩
    | _ + 2, e1, e2 => cases e1
  · obtain ⟨_, rfl⟩ := one_cell e
    exact ⟨vC, _, kp _ _ cS.1, rfl⟩
  · obtain ⟨_, rfl⟩ := one_cell e
    exact cS.2
section
variable {prog : Program} {w : World} {A : Around} {E : Value → Shared → Prop} {h : Heap} {g : Array GenState} {d : Drawn} {t : Nat} {os : OsState} {nm q : Str} {C N : Addr} {bs bm : List Value} {hdct : Bool} {sn : List Str} {sub : List Value} {ab : Bool} {col : Option Bool} {dd : Option Addr} {k0 k1 k2 k3 k5 : Option Value}
/-- super().__init__(..) called: the bound built-in -/
theorem call_mw {u e t0 : Addr} {rest : List Value} {Q : Value → Shared → Prop}
    (hC : h.get? C = some (excClassObj nm q C N bs bm hdct sn sub ab col dd k0 k1 k2 k3 k5 "ValueError.__new__")) (he : h.get? e = some (excObj C t0 none .none)) (hu : h.get? u = some (kxs_mw "ValueError.__init__" e)) (hrest : rest.length ≤ sizeLine)
    (hq : ∀ h' t1, (∀ b o, b ≠ e → h.get? b = some o → h'.get? b = some o) → h'.get? e = some (excObj C t1 none .none) → Q .none ⟨h', g, d, t, os⟩) :
    wpAny (model prog w) A (call (.ref u) rest) Q E ⟨h, g, d, t, os⟩ := by
  refine wpAny_call (codeAny_of_tree ?_)
  show wpAny _ A.in1 (callAny (.ref u) ⟨rest, []⟩) _ _ _
  simp only [callAny]
  refine wpAny_bind (wpAny_load hu ?_)
  simp only [kxs_mw, show (Value.type "method-wrapper" == Value.type "method" || Value.type "method-wrapper" == Value.type "builtin_function_or_method" || Value.type "method-wrapper" == Value.type "method-wrapper") = true by decide, if_true]
  refine KFB.if_so (by decide) ?_
  refine wpAny_bind (check_bound_init F.excBase_ValueError.toExcCallFacts hC he rfl ?_)
  refine wpAny_bind (wpAny_pure (wpAny_pure ?_))
  refine ⟨plainId_quiet F.excBase_ValueError.init.plain _, codeAny_builtin F.excBase_ValueError.initEntry ?_⟩
  exact exc_init_tree (cls := .ref C) (t0 := t0) (dv := none) (c2 := .none) (c3 := .none) (b4 := .bool false) he hrest fun h' k e' _ => hq h' _ k e'
end
theorem su_ok {P : Program} {w : World} {K : Frag} {mg : Str → Option Value} {base : Heap} {F qual t : Str} {params : Arguments} {scope : Scope} {f C : Addr} {fd : FuncData} {j k : Nat} {p0 p1 p2 p3 p4 p5 p6 p7 p8 p9 : Pos} {kk : Nat}
    (T : SuI K P C F qual params (sBody t j F p0 p1 p2 p3 p4 p5 p6 p7 p8 p9) scope f fd) (O : OexC K C) (hF : F ≠ "self") (hF2 : (F == ("__debug__" : Str)) = false) (hF3 : (F == ("__classdict__" : Str)) = false) (msup : mg "super" = none)
    (hcall : ∀ env : Env, ∃ pl : Sem Bool, eval (.Call (.Attribute (.Call (.Name "super" p0) [] [] p1) "__init__" p2) [.Constant (.str t) j p3] [] p4) env = (do
      let ov ← attributeBase (.Call (.Name "super" p0) [] [] p1) "__init__" env (eval (.Call (.Name "super" p0) [] [] p1) env)
      standAt p2.atName
      let (f, first) ← holding [ov] (getMethod ov "__init__" pl)
      callWith p4 f first (backTo p4 (starEach [.Constant (.str t) j p3] env)) [])) :
    FnOk P w K mg base CX0 (kk + 1) f fd ["self", F] (spSu K C F) := by
  obtain ⟨oc, od, kV, doc, pm, an, ct, osl, cda, cc, ccl, cl, cdd, cld, vs, ccs, csl, file, tf, ar, rfl, lk, hcd, hcode, hvs, hfile, hcell, hp, har⟩ := T.ex
  refine ⟨fun vs H Q E h => ?_, fun A outer s H args us vs' Q E hr e0 hb r hsp => ?_⟩
  · obtain ⟨a, v, rfl, _⟩ := h
    rfl
  obtain ⟨a, v, rfl, ha, hno, hq⟩ := hsp
  have KX : K.In s.heap := e0.mod.kin.keeps fun b o e => (e0.bs b o e).1
  have lim : s.heap.NoLimit := e0.mod.nolimit.keeps fun b o e => (e0.bs b o e).1
  cases r with
  | @cons _ u0 _ _ r0 r =>
  cases r with
  | @cons _ u1 _ _ r1 r =>
  cases r
  refine ks_codeAny_call_defAt (fd := ksFn "__init__" qual params (sBody t j F p0 p1 p2 p3 p4 p5 p6 p7 p8 p9) scope .none kV doc pm an (.ref cda) ct cc) (body := sBody t j F p0 p1 p2 p3 p4 p5 p6 p7 p8 p9) (binds := [("self", u0), (F, u1)]) hr.depth (KX _ _ lk) rfl lim (codeRec_of KX hcd) rfl hb T.nc
    (fun x hx => ?_) (fun h₁ hns kp => ?_) T.co T.gen T.kind
  · rcases List.mem_cons.mp hx with e | hx
    · rw [e]; exact T.l3
    · rcases List.mem_cons.mp hx with e | hx
      · rw [e]; exact T.l4
      · cases hx
  have J := su_start (tk := s.toks + ([("self", u0), (F, u1)] : List (Str × Value)).length) (cda := cda) T e0 hr.hd hF hcell r0 r1 hns kp
  let X : Cx := suCx P w K mg base F qual scope f cda cc A outer s H
  show _root_.PySem.wpAt (model P w) X.A (.func (sBody t j F p0 p1 p2 p3 p4 p5 p6 p7 p8 p9) X.env) (execs (sBody t j F p0 p1 p2 p3 p4 p5 p6 p7 p8 p9) X.env) _ _ _
  -- the second statement, from any state that holds the context
  have two : ∀ (s1 : Shared) (Q' : Flow → Shared → Prop) (E' : Value → Shared → Prop), Inv X [] [some (.ref a), some v] H s1 → (∀ s2, CE outer P w H s Q .none s2 → Q' .next s2) →
      wpAny (model P w) X.A (execs [.Assign [.Attribute (.Name "self" p6) F p7] (.Name F p8) p9] X.env) Q' E' s1 := fun s1 Q' E' I1 hk => by
    have hv0 : Vis X.env.scope "self" := .inl T.l3
    have hv1 : Vis X.env.scope F := .inl T.l4
    have term : PSs X [.Assign [.Attribute (.Name "self" p6) F p7] (.Name F p8) p9] _ := pss_one (ps_ost (pe_var (i := 0) rfl hv0) (pe_var (i := 1) rfl hv1 hF2 hF3))
    refine wpAny_mono (term.run [] s1 [some (.ref a), some v] H ⟨fun _ H' => Q .non H', fun _ _ => False, fun _ _ => False, fun _ _ => False⟩ I1 ?_) (fun fl s2 hs => ?_) (fun _ _ z => z.elim)
    · exact ⟨v, rfl, .ref a, rfl, a, C, rfl, O, hno, .inl ⟨ha, fun dx nd ne => hq dx nd ne⟩⟩
    · cases fl with
      | next =>
        obtain ⟨σ', H', J', q⟩ := hs
        exact hk s2 ⟨.non, H', J'.os, J'.bare, J'.base, J'.hok, rfl, q⟩
      | ret u =>
        obtain ⟨_, _, _, _, _, q⟩ := hs
        exact False.elim q
      | brk =>
        obtain ⟨_, _, _, q⟩ := hs
        exact False.elim q
      | cont =>
        obtain ⟨_, _, _, q⟩ := hs
        exact False.elim q
  obtain ⟨pl, he⟩ := hcall X.env
  refine ks_wpAt_execs_cons (ks_wpAt_Expr_any (ks_wpAt_MethodCall (pl := pl) ?main he) ?hi ?hs)
  case hi => exact J.quiet
  case hs => rfl
  case main =>
    have X0 : K.In s.heap := KX
    obtain ⟨nm, q, N, bs, bm, sn, sub, ab, col, dd, k0, k1, k2, k3, k5, hC, hbm⟩ := O.cls
    have hcl : clsIn K C = some { name := nm, bases := bs, mro := .ref C :: bm, ns := N, qualname := q, hasDict := true, slotNames := sn, subclasses := sub, abstract := ab, collection := col, hasDel := false } := by unfold clsIn; rw [hC] <;> rfl
    obtain ⟨t1, ho⟩ := exo_at J.hok ha
    have gC := J.kIn _ _ hC
    refine ks_wpAt_super_base (env := X.env) T.l1 T.l2 (by decide) rfl (J.kIn _ _ lk) rfl hp rfl (J.kIn _ _ hcode) rfl hvs hfile T.htop ?_
    obtain ⟨mb, b1, b2⟩ := J.mod.blt
    refine ks_loadName_global T.kind T.l1 (Calls.loadGlobal_builtin (env := X.env) (J.mod.glob.keeps J.bk) msup (b1.keeps J.bk) ((b2 _ (by decide)).trans (by decide +kernel)) ⟨rfl, ?_⟩)
    refine wpAny_loadName_free T.kind T.l2 rfl ⟨_, J.kIn _ _ hcell, rfl⟩ ?_
    rw [har]
    have n : (("self" : Str) == F) = false := by simpa using (Ne.symm hF)
    refine wpAny_loadName_local T.kind T.l3 hns (v := u0) (by simp [List.lookup, n]) ?_
    obtain rfl : u0 = Value.ref a := r0
    refine ks_wpAny_isType_cls gC rfl ⟨rfl, ?_⟩
    refine ks_wpAny_call_super gC rfl ho rfl (fun c z => by cases z) (looks_mroIn J.kIn T.sub) (fun h2 e2 k2 => ?_)
    have J2 := J.kept (t' := s.toks + ([("self", Value.ref a), (F, u1)] : List (Str × Value)).length) k2
    have I2 : InstAt h2 a { cls := .ref C, dict := none, data := .fields #[.ref t1, .none, .none, .none, .bool false, .none] } C none := ⟨k2 _ _ ho, rfl, rfl, trivial⟩
    have hI : Looks (model P w) h2 (isInstance (.ref a) (.type "ValueError")) true := I2.type.andThen (looks_subIn J2.kIn T.ve)
    have hm := T.sup
    unfold ks_superIn at hm
    rw [hcl] at hm
    refine kxs_getMethod kxs_ValueError e2 (looks_opaque J2.kIn T.opq) (fun A Q E s k q => wpAny_bind ((looks_clsIn J2.kIn hcl) A _ E s k (wpAny_pure q))) rfl J2.kIn hm hI (ks_ne J2.kIn I2 hcl) (by decide) ?_
    have k3 : ∀ b o, h2.get? b = some o → (h2.push (kxs_mw "ValueError.__init__" a)).get? b = some o := fun b o e => Heap.get?_push_of_some _ e
    have J3 := J2.kept (t' := s.toks + ([("self", Value.ref a), (F, u1)] : List (Str × Value)).length + 1) k3
    have hu3 : (h2.push (kxs_mw "ValueError.__init__" a)).get? h2.objs.size = some (kxs_mw "ValueError.__init__" a) := Heap.get?_push_size _ rfl
    have term : PA X [Expr.Constant (.str t) j p3] _ := pa_cons pe_str pa_nil
    refine kxs_callWith (i := "ValueError.__init__") (x := a) rfl (Calls.evalArgs_plain ?_)
    have J3p := J3.pins_of (pins' := [(h2.objs.size, kxs_mw "ValueError.__init__" a)]) fun p hp => by
      rw [List.mem_singleton.mp hp]
      exact ⟨hu3, J2.hok.fresh (Nat.le_refl _), fun z => absurd (show X.env.locals < h2.objs.size from J2.lt) (by rw [← z]; exact Nat.lt_irrefl _), J2.nofs (Nat.le_refl _), fun v z => by cases z⟩
    refine wpAny_mono (term.run p4 _ _ [some (.ref a), some v] H (fun ws H' => H' = H ∧ ws.length = 1) J3p ⟨rfl, rfl⟩) (fun us s4 h4 => ?_) (fun _ _ z => z.elim)
    obtain ⟨ws, H4, J4, r4, rfl, l4⟩ := h4
    have hu4 := (J4.pin (h2.objs.size, kxs_mw "ValueError.__init__" a) (List.mem_append_right _ List.mem_cons_self)).1
    refine ⟨hu4, ?_⟩
    have J5 := J4.pins_of (pins' := []) fun p hp => by cases hp
    obtain ⟨t4, ho4⟩ := exo_at J5.hok ha
    obtain ⟨hp4, g4, d4, tk4, os4⟩ := s4
    refine call_mw (J5.kIn _ _ hC) ho4 hu4 (by rw [List.nil_append, ← Paired.length r4, l4]; decide) fun h5 t5 k5 e5 => ?_
    have J6 := J5.write (t' := tk4) (x := a) (e := a) (o := exo a C none) (by rw [ha]; exact True.intro) (.inl rfl) k5 ⟨_, e5⟩ (exo_ok e5)
    have eu : upd H4 a (exo a C none) = H4 := by
      funext b
      by_cases hb : b = a
      · rw [hb, upd_same, ha]
      · rw [upd_ne hb]
    rw [eu] at J6
    refine wpAt_of_wpAny (two _ _ _ J6 fun s2 hc => hc)
end Ow

/-! ## X2 -/
set_option Elab.async false
set_option linter.all false
set_option maxRecDepth 100000
set_option maxHeartbeats 2000000
/-! Calls in short; a call with keywords alone; == of tuples with the same things in them; defs that need to know that no repr runs around them. -/
namespace Ow
open PySem PySem.Spec PyProof.Rows L2
theorem pe_never {X : Cx} {e : Expr} : PE X e (fun _ _ _ => False) := ⟨fun _ _ _ _ _ _ h => h.elim⟩
/-! ### a def that may be called by its name -/
structure Cl (P : Program) (w : World) (K : PySem.W.Frag) (mg : Str → Option Value) (base : Heap) (CX : CXT) (k : Nat) (x : Str) (ps : List Str) (sp : Sp) (dvs : List V) : Prop where
  ex : ∃ (f : Addr) (fd : FuncData) (ds : List Value), FnOk P w K mg base CX k f fd ps sp ∧ mg x = some (.ref f) ∧ PySem.W.keepIn K (.ref f) = true ∧ Binds K fd ps ds ∧ Vals dvs ds
structure ClK (P : Program) (w : World) (K : PySem.W.Frag) (mg : Str → Option Value) (base : Heap) (CX : CXT) (k : Nat) (x : Str) (ps : List Str) (n : Nat) (ks : List Str) (gV : List V → List V → List V) (sp : Sp) : Prop where
  ex : ∃ (f : Addr) (fd : FuncData) (g : List Value → List Value → List Value), FnOk P w K mg base CX k f fd ps sp ∧ mg x = some (.ref f) ∧ PySem.W.keepIn K (.ref f) = true ∧ KBn K fd ps n ks g gV
/-- a class that may be made by its name -/
structure ClM (P : Program) (w : World) (K : PySem.W.Frag) (mg : Str → Option Value) (base : Heap) (CX : CXT) (k : Nat) (x : Str) (C : Addr) (ps : List Str) (sp : Sp) (dvs : List V) : Prop where
  ex : ∃ (f : Addr) (fd : FuncData) (ds : List Value), Mk K C f ∧ FnOk P w K mg base CX k f fd ps sp ∧ mg x = some (.ref C) ∧ Binds K fd ps ds ∧ Vals dvs ds
/-- a method -/
structure ClMe (P : Program) (w : World) (K : PySem.W.Frag) (mg : Str → Option Value) (base : Heap) (CX : CXT) (k : Nat) (C : Addr) (m : Str) (ps : List Str) (sp : Sp) : Prop where
  ex : ∃ (f : Addr) (fd : FuncData), Cls K C ∧ Meth K C m f ∧ FnOk P w K mg base CX k f fd ps sp ∧ Binds K fd ps []
section
variable {X : Cx} {CX : CXT} {k n : Nat} {C : Addr} {x m : Str} {ps ks : List Str} {sp : Sp} {dvs : List V} {E : XK} {p pos apos : Pos} {e o : Expr} {es : List Expr} {kws : List Keyword} {ta : TE} {t tk : TA} {gV : List V → List V → List V}
theorem pe_cl (c : Cl X.prog X.w X.K X.mg X.base CX k x ps sp dvs) (hr : Room k X.A) (hx : Passes CX X E) (hg : Gl X x) (ha : PA X (e :: es) t) (hdb : (x == ("__debug__" : Str)) = false := by decide)
    (he : starEach (e :: es) X.env = (false, eval e X.env) :: starEach es X.env := by rfl) (hpl : (backTo pos (starEach es X.env)).any (·.1) = false := by rfl) : PE X (.Call (.Name x p) (e :: es) [] pos) (tCall sp dvs E t) := by
  obtain ⟨f, fd, ds, G, hm, hk, hb, hd⟩ := c.ex
  exact pe_call G hr hg hm hk hb hd hx ha hdb he hpl
theorem pe_clM (c : ClM X.prog X.w X.K X.mg X.base CX k x C ps sp dvs) (hr : Room (k + 1) X.A) (hx : Passes CX X E) (hg : Gl X x) (ha : PA X (e :: es) t) (hdb : (x == ("__debug__" : Str)) = false := by decide)
    (he : starEach (e :: es) X.env = (false, eval e X.env) :: starEach es X.env := by rfl) (hpl : (backTo pos (starEach es X.env)).any (·.1) = false := by rfl) : PE X (.Call (.Name x p) (e :: es) [] pos) (tMake C sp dvs E t) := by
  obtain ⟨f, fd, ds, M, G, hm, hb, hd⟩ := c.ex
  exact pe_make M G hr hg hm hb hd hx ha hdb he hpl
theorem pe_clK (c : ClK X.prog X.w X.K X.mg X.base CX k x ps n ks gV sp) (hr : Room k X.A) (hx : Passes CX X E) (hg : Gl X x) (ha : PA X (e :: es) t) (hkw : PK X kws tk) (hall : (backToKw pos (keywordEach kws X.env)).all (·.1.isSome) = true := by rfl)
    (hks : (backToKw pos (keywordEach kws X.env)).filterMap (·.1) = ks := by rfl) (hdb : (x == ("__debug__" : Str)) = false := by decide) (he : starEach (e :: es) X.env = (false, eval e X.env) :: starEach es X.env := by rfl)
    (hpl : ((backTo pos (starEach (e :: es) X.env)).any (·.1) || (backToKw pos (keywordEach kws X.env)).any (·.1.isNone)) = false := by rfl) : PE X (.Call (.Name x p) (e :: es) kws pos) (tCallN n ks.length sp gV E t tk) := by
  obtain ⟨f, fd, g, G, hm, hk, hb⟩ := c.ex
  exact pe_callN G hr hg hm hk hb hx ha hkw hall hks hdb he hpl
/-- f(k = v, ..), no positional -/
theorem pe_clK0 (c : ClK X.prog X.w X.K X.mg X.base CX k x ps 0 ks gV sp) (hr : Room k X.A) (hx : Passes CX X E) (hg : Gl X x) (hkw : PK X kws tk) (hall : (backToKw pos (keywordEach kws X.env)).all (·.1.isSome) = true := by rfl)
    (hks : (backToKw pos (keywordEach kws X.env)).filterMap (·.1) = ks := by rfl) (hdb : (x == ("__debug__" : Str)) = false := by decide)
    (hpl : ((backTo pos (starEach [] X.env)).any (·.1) || (backToKw pos (keywordEach kws X.env)).any (·.1.isNone)) = false := by rfl) : PE X (.Call (.Name x p) [] kws pos) (tCallN 0 ks.length sp gV E tNil tk) := by
  obtain ⟨f, fd, g, G, hm, hk, hb⟩ := c.ex
  refine ⟨fun pins s σ H Q I h => ?_⟩
  refine wpAny_Call_Name_kw (ld_glob I hg hm ?_ hdb)
  refine PySem.W.callWith_KW0 (h₀ := X.base) I.ok.mod.kin hk hall ?_ hpl
  refine thn (hkw.run pos pins s σ H _ I h) fun ws s2 ⟨zs, H2, I2, rz, l1, l2, q2⟩ => ⟨I2.kIn, ?_⟩
  rw [hks]
  exact run_fnN (us := []) (vs := []) G hr hb hx I2 .nil rz rfl l2 q2
theorem pe_clMe {pl : Sem Bool} (c : ClMe X.prog X.w X.K X.mg X.base CX k C m ps sp) (hr : Room k X.A) (hx : Passes CX X E) (he : PE X o ta) (ha : PA X (e :: es) t)
    (hst : starEach (e :: es) X.env = (false, eval e X.env) :: starEach es X.env := by rfl) (hpl : (backTo pos (starEach es X.env)).any (·.1) = false := by rfl)
    (ht : eval (.Call (.Attribute o m apos) (e :: es) [] pos) X.env = (do
      let ov ← eval o X.env
      standAt apos.atName
      let (f, first) ← holding [ov] (getMethod ov m pl)
      callWith pos f first (backTo pos (starEach (e :: es) X.env)) (backToKw pos (keywordEach [] X.env))) := by rfl) :
    PE X (.Call (.Attribute o m apos) (e :: es) [] pos) (tMeth C m sp [] E ta t) := by
  obtain ⟨f, fd, cl, me, G, hb⟩ := c.ex
  exact pe_meth he cl me G hr hb .nil hx ha hst hpl ht
theorem pe_clMe0 {pl : Sem Bool} (c : ClMe X.prog X.w X.K X.mg X.base CX k C m ps sp) (hr : Room k X.A) (hx : Passes CX X E) (he : PE X o ta)
    (ht : eval (.Call (.Attribute o m apos) [] [] pos) X.env = (do
      let ov ← eval o X.env
      standAt apos.atName
      let (f, first) ← holding [ov] (getMethod ov m pl)
      callWith pos f first (backTo pos (starEach [] X.env)) (backToKw pos (keywordEach [] X.env))) := by rfl) :
    PE X (.Call (.Attribute o m apos) [] [] pos) (tMeth C m sp [] E ta tNil) := by
  obtain ⟨f, fd, cl, me, G, hb⟩ := c.ex
  exact pe_meth0 he cl me G hr hb .nil hx ht
end
/-- an exception of a callee that lets none out by its promise -/
theorem passNo {X : Cx} {P : Program} {w : World} : Passes (L2.CX P w) X (fun _ _ _ => False) := fun _ _ _ _ _ _ _ c => by
  obtain ⟨_, _, _, _, _, _, _, _, _, _, _, _, z⟩ := c
  exact z.elim
/-! ### == of tuples that hold the same -/
def rEqT (K : PySem.W.Frag) : R2 := fun x y H Q => ∃ (a b : Addr) (xs : List V), x = .ref a ∧ y = .ref b ∧ SqT K H a xs ∧ SqT K H b xs ∧ (∀ v ∈ xs, flatB v = true ∨ ∃ c, v = .ref c) ∧ Q (.bl true) H
theorem op_eqT {X : Cx} (hu : X.A.units + 64 < cLine) : OpR X (compareOp .Eq) (rEqT X.K) := by
  intro pins s σ H x y v u Q I rx ry h
  obtain ⟨a, b, xs, rfl, rfl, ha, hb, hf, q⟩ := h
  obtain rfl : v = Value.ref a := rx
  obtain rfl : u = Value.ref b := ry
  obtain ⟨us, r1, p1, _⟩ := I.tuple ha
  obtain ⟨ws, r2, p2, _⟩ := I.tuple hb
  have hl : us.length = ws.length := by rw [← r1.length, ← r2.length]
  have key : ∀ {xs : List V} {us ws : List Value}, (∀ v ∈ xs, flatB v = true ∨ ∃ c, v = .ref c) → Vals xs us → Vals xs ws → ∀ j (h1 : j < us.length) (h2 : j < ws.length), SeqAt.EqAt X.A.in1 s us[j] ws[j] true := by
    intro xs
    induction xs with
    | nil => intro us ws _ q1 q2 j h1 _; cases q1; exact absurd h1 (Nat.not_lt_zero j)
    | cons x xs ih =>
      intro us ws hf q1 q2 j h1 h2
      cases q1 with
      | cons a1 b1 =>
        cases q2 with
        | cons a2 b2 =>
          cases j with
          | zero =>
            rcases hf x List.mem_cons_self with f | ⟨c, e⟩
            · exact eqAt_same a1 a2 f
            · subst e
              cases a1
              cases a2
              exact SeqAt.EqAt.same _
          | succ j => exact ih (fun v hv => hf v (List.mem_cons_of_mem _ hv)) b1 b2 j (Nat.lt_of_succ_lt_succ h1) (Nat.lt_of_succ_lt_succ h2)
  refine SeqAt.eq_tupleAt (e := fun _ => true) p1 p2 (by omega) (fun j h1 h2 => ?_) ?_
  · have z := key hf r1 r2 j (by simpa using h1) (by simpa using h2)
    simpa using z
  · have e : ((List.range (min us.toArray.size ws.toArray.size)).all (fun _ => true) && us.toArray.size == ws.toArray.size) = true := by
      rw [List.size_toArray, List.size_toArray, hl]
      simp
    rw [e]
    exact ⟨.bl true, H, I, rfl, q⟩
/-! ### defs that know that no repr runs around them -/
structure FnG (P : Program) (w : World) (K : PySem.W.Frag) (mg : Str → Option Value) (base : Heap) (CX : CXT) (k : Nat) (f : Addr) (fd : FuncData) (ps : List Str) (sp : Sp) : Prop where
  len : ∀ vs H Q E, sp vs H Q E → vs.length = ps.length
  run : ∀ (A : Around) (outer : List Env) (s : Shared) (H : Hp) (args : Args) (us : List Value) (vs : List V) (Q : VK) (E : XK), A.guards = some [] → Room k A → Env0 P w K mg base A outer s H → BindsTo s fd args (ps.zip us) → Vals vs us → sp vs H Q E →
    codeAny (model P w) A (.call (.ref f) args) (CR CX outer P w H s Q E) s
structure ClG (P : Program) (w : World) (K : PySem.W.Frag) (mg : Str → Option Value) (base : Heap) (CX : CXT) (k : Nat) (x : Str) (ps : List Str) (sp : Sp) : Prop where
  ex : ∃ (f : Addr) (fd : FuncData), FnG P w K mg base CX k f fd ps sp ∧ mg x = some (.ref f) ∧ PySem.W.keepIn K (.ref f) = true ∧ Binds K fd ps []
theorem deeper_guards {A : Around} {e : Env} : (A.deeper e).guards = A.guards := rfl
theorem pe_clG {X : Cx} {CX : CXT} {k : Nat} {x : Str} {ps : List Str} {sp : Sp} {E : XK} {p pos : Pos} {e : Expr} {es : List Expr} {t : TA} (c : ClG X.prog X.w X.K X.mg X.base CX k x ps sp) (hgd : X.A.guards = some []) (hr : Room k X.A) (hx : Passes CX X E) (hg : Gl X x) (ha : PA X (e :: es) t)
    (hdb : (x == ("__debug__" : Str)) = false := by decide) (he : starEach (e :: es) X.env = (false, eval e X.env) :: starEach es X.env := by rfl) (hpl : (backTo pos (starEach es X.env)).any (·.1) = false := by rfl) :
    PE X (.Call (.Name x p) (e :: es) [] pos) (tCall sp [] E t) := by
  obtain ⟨f, fd, G, hm, hk, hb⟩ := c.ex
  refine ⟨fun pins s σ H Q I h => ?_⟩
  refine wpAny_Call_Name_kw (ld_glob I hg hm ?_ hdb)
  refine PySem.W.callWith_K (h₀ := X.base) I.ok.mod.kin hk (thn (ha.run pos pins s σ H _ I h) fun us s1 ⟨vs, H1, I1, r, q⟩ => ⟨I1.kIn, ?_⟩) he hpl
  have r2 : Vals (vs ++ []) (us ++ []) := r.append .nil
  have hl : (us ++ []).length = ps.length := by rw [← r2.length]; exact G.len _ _ _ _ q
  refine wpAny_call (codeAny_mono (G.run X.A X.stack s1 H1 ⟨us, []⟩ (us ++ []) (vs ++ []) Q E hgd hr I1.env0 (hb s1 us I1.kIn hl) r2 q) fun r s' hq => ?_)
  cases r with
  | error e => exact hx pins σ H1 s1 e s' I1 hq
  | ok fl =>
    cases fl with
    | ret u => exact I1.after hq
    | next => exact False.elim hq
    | brk => exact False.elim hq
    | cont => exact False.elim hq
/-- a def as it stands behind the top, its code object at c -/
structure FunC (K : PySem.W.Frag) (x : Str) (st : Stmt) (f : Addr) (fd : FuncData) (c : Addr) : Prop where
  ex : ∃ (oc : Value) (od : Option Addr) (kV doc pm : Value) (an : Option Addr) (ct : Value) (osl : Array (Option Value)),
    fd = PySem.W.fnOf x x (defArgs st) (defBody st) (defScope st) .none kV doc pm an (.ref c) ct ∧ K.lookup f = some ⟨oc, od, .func fd, osl⟩ ∧ PySem.W.codeIn K (.ref c) x = true
/-- the rule for such a def; nothing is raised out of it -/
theorem funG {P : Program} {w : World} {K : PySem.W.Frag} {mg : Str → Option Value} {base : Heap} {x : Str} {st : Stmt} {f c : Addr} {fd : FuncData} {N ps : List Str} {k : Nat} {sp : Sp} (F : FunC K x st f fd c) (S : FnScope N ps (defScope st)) (len : ∀ vs H Q E, sp vs H Q E → vs.length = ps.length)
    (hbody : ∀ (A : Around) (outer : List Env) (s : Shared) (H : Hp) (vs : List V) (Q : VK) (E : XK), A.guards = some [] → Room k (A.deeper (envOfC x (defScope st) s.heap.objs.size f (.ref c))) → sp vs H Q E →
      ∃ t, PSs (cxOf CX0 P w K mg base N x (defScope st) f (.ref c) A outer s H E).nox (defBody st) t ∧ t { nx := fun _ H' => Q .non H', rt := Q } (start N vs) H) : FnG P w K mg base CX0 (k + 1) f fd ps sp := by
  obtain ⟨oc, od, kV, doc, pm, an, ct, osl, rfl, lk, hcd⟩ := F.ex
  refine ⟨len, fun A outer s H args us vs Q E hgd hr e0 hb r hsp => ?_⟩
  refine LamX.run_ofS lk hcd S hr e0 hb r (len _ _ _ _ hsp) fun hr' => ?_
  obtain ⟨t, h, q⟩ := hbody A outer s H vs Q E hgd hr' hsp
  exact ⟨t, h.nox, q⟩
theorem FunC.binds {K : PySem.W.Frag} {x : Str} {st : Stmt} {f c : Addr} {fd : FuncData} {ps : List Str} (F : FunC K x st f fd c)
    (h : ∀ (kV doc pm : Value) (an : Option Addr) (cdv ct : Value) (us : List Value), us.length = ps.length → bindArgs (PySem.W.fnOf x x (defArgs st) (defBody st) (defScope st) .none kV doc pm an cdv ct) ⟨us, []⟩ = pure (ps.zip us)) : Binds K fd ps [] := by
  obtain ⟨oc, od, kV, doc, pm, an, ct, osl, rfl, lk, hcd⟩ := F.ex
  exact .all (h kV doc pm an (.ref c) ct)
end Ow

/-! ## X2b -/
set_option Elab.async false
set_option linter.all false
set_option maxRecDepth 100000
set_option maxHeartbeats 2000000
/-! list(range(n)) -/
namespace Ow
open PySem PySem.Spec PyProof.Rows L2
theorem vals_gen : ∀ {xs : List V} {us : List Value}, xs.length = us.length → (∀ (j : Nat) x u, xs[j]? = some x → us[j]? = some u → RelV x u) → Vals xs us
  | [], [], _, _ => .nil
  | [], _ :: _, e, _ => by cases e
  | _ :: _, [], e, _ => by cases e
  | x :: xs, u :: us, e, h => .cons (h 0 x u rfl rfl) (vals_gen (Nat.succ.inj e) fun j x u e1 e2 => h (j + 1) x u e1 e2)
section
variable {X : Cx}
theorem cr_range1 : CallR X (.type "range") (fun vs H Q => ∃ j : Int, vs = [V.int j] ∧ ∀ p, H p = none → Q (.ref p) (upd H p (.rng 0 j))) := by
  intro pins s σ H vs us Q I r h
  obtain ⟨j, rfl, q⟩ := h
  cases r with
  | cons r rr =>
    cases rr
    obtain ⟨t, rfl⟩ := r
    refine call_range_1 ⟨.ref s.heap.objs.size, upd H s.heap.objs.size (.rng 0 j), I.laid (t' := s.toks + 2) (fun b o e => Heap.get?_push_of_some _ e) (Nat.le_refl _) ?_, rfl, q _ (I.hok.fresh (Nat.le_refl _))⟩
    exact ⟨_, _, _, Heap.get?_push_size _ rfl⟩
def rLr : List V → Hp → VK → Prop := fun vs H Q => ∃ (a : Addr) (n : Nat), vs = [.ref a] ∧ H a = some (.rng 0 (n : Nat)) ∧ n ≤ 1000 ∧ ∀ p, H p = none → Q (.ref p) (upd H p (.lst ((List.range n).map fun i => V.int (i : Nat))))
theorem cr_listR (hc : X.calm = true) : CallR X (.type "list") rLr := by
  intro pins s σ H vs us Q I r h
  obtain ⟨a, n, rfl, ha, hn, q⟩ := h
  rw [Vals_one r]
  obtain ⟨t, u, v, ho⟩ := (show ObjOk X.prog X.w H s.heap a (.rng 0 (n : Nat)) from I.hok a _ ha)
  have hz : (n : Int) ≤ 1000 := by omega
  refine call_list_range (a := 0) (b := (n : Nat)) (c := 1) (n := n) (I.ok.hd hc) ho (small_one (by omega) (by omega) (by omega) (by omega)) (by simp [Builtin.Range.rangeSize]; omega) (by omega) fun h' tk acc' c' k hS hacc => ?_
  have hfr : H s.heap.objs.size = none := I.hok.fresh (Nat.le_refl _)
  refine ⟨.ref s.heap.objs.size, _, I.laid (t' := tk) (o := .lst ((List.range n).map fun i => V.int (i : Nat))) k (Nat.le_refl _) ⟨by rw [List.length_map, List.length_range, sizeLine_eq]; omega, acc'.toList, c', ?_, by simpa using hS⟩, rfl, q _ hfr⟩
  have hl : acc'.toList.length = n := by rw [Array.length_toList, hacc.1]
  refine vals_gen (by rw [hl]; simp) fun j x u e1 e2 => ?_
  have e2' : acc'[j]? = some u := by simpa using e2
  obtain ⟨t, rfl⟩ := hacc.2 j u e2'
  rw [List.getElem?_map] at e1
  have hj : j < n := by
    have := (List.getElem?_eq_some_iff.mp e2).1
    omega
  rw [List.getElem?_range hj] at e1
  cases e1
  exact ⟨t, by simp⟩
end
end Ow

/-! ## X0j -/
set_option Elab.async false
set_option linter.all false
set_option maxRecDepth 100000
set_option maxHeartbeats 4000000
/-! a, b, c = x, y, z -/
namespace Ow
open PySem PySem.Spec PyProof.Rows L2
section
variable {X : Cx} {pos : Pos}
def tPar3 (i j k : Nat) (ta : TA) : TS := fun D σ H => ta σ H fun vs H1 => ∃ v w u, vs = [v, w, u] ∧ D.nx (((σ.set i (some v)).set j (some w)).set k (some u)) H1
theorem ps_par3 {i j k : Nat} {x y z : Str} {a b c : Expr} {ta : TA} {px py pz pt : Pos} {kt k2 pt2} (hc : X.calm = true) (hN : X.N.Nodup) (hi : X.N[i]? = some x) (hj : X.N[j]? = some y) (hk : X.N[k]? = some z) (hij : i ≠ j) (hik : i ≠ k) (hjk : j ≠ k)
    (hx : X.env.scope.names.lookup x = some .local) (hy : X.env.scope.names.lookup y = some .local) (hz : X.env.scope.names.lookup z = some .local) (ha : PA X [a, b, c] ta)
    (hw : swappedStores [.Tuple [.Name x px, .Name y py, .Name z pz] kt pt] (.Tuple [a, b, c] k2 pt2) X.env = pure (some [x, y, z]))
    (hs : swapsWithSole [.Tuple [.Name x px, .Name y py, .Name z pz] kt pt] (.Tuple [a, b, c] k2 pt2) pos.line X.env = pure false := by rfl) :
    PS X (.Assign [.Tuple [.Name x px, .Name y py, .Name z pz] kt pt] (.Tuple [a, b, c] k2 pt2) pos) (tPar3 i j k ta) := by
  refine ⟨fun pins s σ H D I h => ?_⟩
  rw [exec_Assign_arm]
  refine wpAny_bind (wpAny_standAt ?_)
  rw [hs]
  refine wpAny_bind (wpAny_pure ?_)
  rw [if_neg (by decide)]
  refine wpAny_bind (Tuple_ (thn (ha.run _ pins s σ H _ I h) fun us s1 ⟨vs, H1, I1, r1, q1⟩ => ?_))
  obtain ⟨v, w, u, e1, q1⟩ := q1
  subst e1
  obtain ⟨u1, u2, u3, rfl, rv, rw', ru⟩ : ∃ u1 u2 u3, us = [u1, u2, u3] ∧ RelV v u1 ∧ RelV w u2 ∧ RelV u u3 := by
    cases r1 with
    | cons p q =>
      cases q with
      | cons p' q' =>
        cases q' with
        | cons p2 q2 =>
          cases q2
          exact ⟨_, _, _, rfl, p, p', p2⟩
  refine wpAny_newObj_type ?_ (by show 3 ≤ sizeLine; decide)
  have I2 : Inv X pins σ H1 { s1 with heap := s1.heap.push { cls := .type "tuple", data := .seq [u1, u2, u3].toArray } } := I1.kept (t' := s1.toks) fun b o e => Heap.get?_push_of_some _ e
  rw [hw]
  refine wpAny_bind (wpAny_pure ?_)
  show wpAny (model X.prog X.w) X.A (do rule "assign.swapped-stores"; let items ← unpackItems (.ref s1.heap.objs.size) 3 none; assignInOrder [fun v => bindName X.env z v, fun v => bindName X.env y v, fun v => bindName X.env x v] items.reverse; pure Flow.next) _ _ _
  refine wpAny_bind (wpAny_rule (wpAny_bind (unpackItems_tuple (items := #[u1, u2, u3]) (I.ok.hd hc) (IsTup.new s1.heap _) fun h' hx' => ?_)))
  have I3 := I2.kept (h' := h') (t' := s1.toks) fun b o e => hx' b o (Nat.ne_of_lt (Heap.lt_size e)) e
  show wpAny _ _ (assignInOrder [fun v => bindName X.env z v, fun v => bindName X.env y v, fun v => bindName X.env x v] [u3, u2, u1] >>= fun _ => pure Flow.next) _ _ _
  refine wpAny_bind (assignInOrder_cons (wpAny_bindName (store_ok I3 hN hk (.inl hz) ru (fun s2 I4 => ?_) (.inr hz))))
  refine assignInOrder_cons (wpAny_bindName (store_ok I4 hN hj (.inl hy) rw' (fun s3 I5 => ?_) (.inr hy)))
  refine assignInOrder_cons (wpAny_bindName (store_ok I5 hN hi (.inl hx) rv (fun s4 I6 => assignInOrder_nil (wpAny_pure ?_)) (.inr hx)))
  rw [List.set_comm _ _ (Ne.symm hij), List.set_comm _ _ (Ne.symm hik)] at I6
  have I7 := I6
  rw [List.set_comm _ _ (Ne.symm hjk)] at I7
  exact ⟨_, H1, by first | exact I7 | exact I6, q1⟩
end
end Ow

/-! ## X3 -/
set_option Elab.async false
set_option linter.all false
set_option maxRecDepth 100000
set_option maxHeartbeats 4000000
/-! several clauses 'except x as n'; isinstance of a caught error that has a dict -/
namespace Ow
open PySem PySem.Spec PySem.Calls PySem.W PyProof.Rows
section
variable {prog : Program} {w : World} {A : Around} {E : Value → Shared → Prop} {s : Shared} {K : Frag} {x D : Addr} {ox : Obj}
theorem findObj_dataD {C : Addr} {od : Option Obj} {name : Str} {a g : Value} (hc : (clsIn K C).isSome = true) (ha : findIn K (.ref C) name = some (some a)) (hg : specialIn K a "__get__" = some (some g)) (ht : takesIn K a = some true) : findObj K C od name = some (.bind g a) := by
  obtain ⟨cd, hc⟩ := Option.isSome_iff_exists.mp hc
  unfold findObj
  rw [hc, Option.bind_some, ha, Option.bind_some]
  simp [hg, ht]
theorem kin_classD {od : Option Obj} {Q : Option Value → Shared → Prop} (hga : findIn K (.ref D) "__getattribute__" = some (some (.builtin "BaseException.__getattribute__"))) (hgt : findIn K (.ref D) "__getattr__" = some none) (hsub : subIn K (.ref D) (.type "BaseException") = some true)
    (hdct : hasDictIn K D = true) (ha : findIn K (.ref D) "__class__" = some (some (.builtin "object.__class__")))
    (hn : specialIn K (.builtin "object.__class__") "__get__" = some (some (.builtin "getset_descriptor.__get__"))) (htk : takesIn K (.builtin "object.__class__") = some true) (hm : mroIn K D (.type "object") = some true)
    (X : K.In s.heap) (I : InstAt s.heap x ox D od) (h : Q (some (.ref D)) { s with toks := s.toks + 1 }) : wpAny (model prog w) A (getAttr? (.ref x) "__class__") Q E s := by
  have hf : findObj K D od "__class__" = some (.bind (.builtin "getset_descriptor.__get__") (.builtin "object.__class__")) := findObj_dataD (by obtain ⟨cd, hc, _⟩ := any_some hdct; rw [hc]; rfl) ha hn htk
  obtain ⟨hp, g, d, t, os⟩ := s
  have L0 := I.type (M := model prog w)
  have L1 := looks_findIn (M := model prog w) X hga
  have L2 := looks_findIn (M := model prog w) X hgt
  have L3 := looks_find (M := model prog w) X I hf
  have sub : Looks (model prog w) hp (isInstance (.ref x) (.type "BaseException")) true := L0.andThen (looks_subIn X hsub)
  have hx0 : (false && onTheHeap (Value.builtin "BaseException.__getattribute__")) = false := rfl
  have hx2 : (Value.builtin "BaseException.__getattribute__" == Value.builtin "object.__getattribute__") = false := by decide +kernel
  have hx1 : (onTheHeap (Value.ref D) && Value.builtin "BaseException.__getattribute__" == Value.builtin "object.__getattribute__") = false := by rw [hx2]; rfl
  unfold getAttr? getAttrBy? getAttrBy
  refine wpAny_bind (wpAny_mkText (wpAny_bind (wpAny_attempt (wpAny_holding (wpAny_bind (L0.at (wpAny_bind (L1.at ?_))))))))
  show wpAny _ _ (if (onTheHeap (Value.ref D) && Value.builtin "BaseException.__getattribute__" == Value.builtin "object.__getattribute__") = true then _ else _) _ _ _
  rw [hx1, if_neg Bool.false_ne_true]
  unfold getAttrByItsOwn hookBefore
  refine wpAny_bind ?_
  rw [if_pos (show onTheHeap (Value.ref D) = true from rfl)]
  refine L2.at ?_
  refine wpAny_bind (wpAny_attempt (wpAny_holding ?_))
  unfold callGetattribute
  rw [hx0, if_neg Bool.false_ne_true]
  unfold boundAndCalled
  rw [PySem.F.excAttr_ValueError.ga.bind (.ref x)]
  refine wpAny_bind (wpAny_pure ?_)
  show wpAny _ _ (call (.builtin "BaseException.__getattribute__") [.ref x, .str "__class__" t]) _ _ _
  refine wpAny_call (codeAny_call_builtin PySem.F.excAttr_ValueError.ga.plain PySem.F.entry_bexc_ga ?_)
  refine @check_slot (model prog w) _ _ ⟨hp, g, d, t + 1, os⟩ "BaseException.__getattribute__" "BaseException" "__getattribute__" (.ref x) [.str "__class__" t] [] _ (by decide +kernel) (by decide +kernel) sub (PySem.F.args_bexc_ga (.ref x) (.str "__class__" t)) ?_
  unfold Builtin.«object.__getattribute__»
  refine wpAny_bind (wpAny_of_eq (a := ((Value.ref x : Value), [Value.str "__class__" t])) (by first | rfl | (simp only [slotArgs]; rfl)) ?_)
  refine wpAny_bind (wpAny_pure (wpAny_bind (L0.at (wpAny_bind (L3.at ?_)))))
  show wpAny _ _ (holding [Value.builtin "object.__class__"] (call (.builtin "getset_descriptor.__get__") [.builtin "object.__class__", .ref x, .ref D]) >>= ret) _ _ _
  refine wpAny_bind (wpAny_holding (wpAny_call (class_get (s := ⟨hp, g, d, t + 1, os⟩) (ox := ox) (od := od) X I hm ?_)))
  refine wpAny_pure ?_
  show wpAny _ _ (handedOut (.ref D)) _ _ _
  rw [handedOut_of (v := .ref D) rfl]
  first
    | exact wpAny_pure (wpAny_pure h)
    | exact wpAny_pure h
    | exact wpAny_pure (wpAny_bind (wpAny_pure (wpAny_pure h)))
theorem kitx_excD {od : Option Obj} (hga : findIn K (.ref D) "__getattribute__" = some (some (.builtin "BaseException.__getattribute__"))) (hgt : findIn K (.ref D) "__getattr__" = some none) (hsub : subIn K (.ref D) (.type "BaseException") = some true) (hdct : hasDictIn K D = true) (ha : findIn K (.ref D) "__class__" = some (some (.builtin "object.__class__")))
    (hn : specialIn K (.builtin "object.__class__") "__get__" = some (some (.builtin "getset_descriptor.__get__"))) (htk : takesIn K (.builtin "object.__class__") = some true) (hm : mroIn K D (.type "object") = some true) :
    KitX K (.ref x) (.ref D) (fun h => InstAt h x ox D od) where
  ty := fun _ _ _ I => I.type
  it := fun _ _ X _ => by
    obtain ⟨cdD, hcD, _⟩ := any_some hdct
    unfold clsIn at hcD
    split at hcD
    · rename_i c' d' cd' sl' ho
      intro A' Q' E' s' k q
      unfold isType loadHead
      exact wpAny_bind (wpAny_loadPart (k _ _ (X _ _ ho)) (wpAny_pure q))
    · cases hcD
  ne := fun h tp dd its n sl X htp => by
    obtain ⟨cdD, hcD, _⟩ := any_some hdct
    refine Bool.eq_false_iff.mpr fun q => ?_
    have e : D = tp := Value.ref.inj (beq_iff_eq.mp q)
    subst e
    unfold clsIn at hcD
    split at hcD
    · rename_i c' d' cd' sl' ho
      have z := (X _ _ ho).symm.trans htp
      cases z
    · cases hcD
  ca := fun X I k => kin_classD hga hgt hsub hdct ha hn htk hm X I k
end
end Ow
namespace Ow
open PySem PySem.Spec PyProof.Rows L2
/-- isinstance(e, c), e the exception that the suite holds, of an own class with a dict -/
def rIsD (K : PySem.W.Frag) (a : Addr) (cls : Value) (d : Option Addr) : List V → Hp → VK → Prop := fun xs H Q => ∃ (D dd : Addr) (fs : List (Str × V)) (c : V) (cv : Value) (b : Bool), cls = .ref D ∧ ExcC K D ∧ d = some dd ∧ H dd = some (.xd fs) ∧ xs = [.ref a, c] ∧ (∀ u, RelV c u → u = cv) ∧ PySem.W.kitOne K (.ref D) cv = some b ∧ Q (.bl b) H
theorem call_isD {X : Cx} {a : Addr} {oe : Obj} {cls : Value} {d : Option Addr} {pn : List (Addr × Obj)} (hz : Zc cls d oe) (hf : ∃ vs, oe.data = .fields vs) : CallR (X.suite a ((a, oe) :: pn)) (.builtin "isinstance") (rIsD X.K a cls d) := by
  intro pins s σ H xs us Q I r h
  obtain ⟨D, dd, fs, c, cv, b, rfl, C, rfl, ea, rfl, hcv, e, q⟩ := h
  cases r with
  | cons rx rr =>
    cases rr with
    | cons rt rr =>
      cases rr
      cases rx
      have ec := hcv _ rt
      subst ec
      obtain ⟨ha, _⟩ := I.pin (a, oe) (List.mem_append.mpr (.inl List.mem_cons_self))
      obtain ⟨vs, hd⟩ := hf
      have hx : ObjOk X.prog X.w H s.heap dd (.xd fs) := I.hok dd _ ea
      obtain ⟨mA, hns, hr⟩ := hx
      obtain ⟨od, ho, hl⟩ := lookIn_ns hns
      have J : PySem.W.InstAt s.heap a oe D (some od) := ⟨ha, hz.1, by unfold PySem.W.notCls; rw [hd] <;> rfl, by rw [hz.2]; exact ho⟩
      exact PySem.W.kia_one (kitx_excD C.hg C.hk C.hs C.hd C.ha C.hn C.ht C.hm) I.kIn J e (fun z => nomatch z) fun tk => ⟨.bl b, H, I.kept (t' := tk) fun _ _ z => z, rfl, q⟩
end Ow

/-! ## X4 -/
set_option Elab.async false
set_option linter.all false
set_option maxRecDepth 100000
set_option maxHeartbeats 4000000
/-! several clauses 'except x as n' -/
namespace Ow
open PySem PySem.Spec PyProof.Rows L2
def wManyAs (K : PySem.W.Frag) (i : Nat) (Wout : WX) (D : Ends) : List (Value × (Addr → Value → Option Addr → TS)) → WX
  | [] => Wout
  | (c, ts) :: r => fun cls d σ H => ∃ b, PySem.W.exmOne K cls c = some b ∧
    (b = true → ∀ a, H a = none → ts a cls d { nx := fun σ' H' => D.nx (σ'.set i none) H', rt := D.rt, bk := fun σ' H' => D.bk (σ'.set i none) H', ct := fun σ' H' => D.ct (σ'.set i none) H' } (σ.set i (some (.ref a))) H) ∧ (b = false → wManyAs K i Wout D r cls d σ H)
inductive HdsAs (X : Cx) (n : Str) : List ExceptHandler → List (Value × (Addr → Value → Option Addr → TS)) → Prop
  | nil : HdsAs X n [] []
  | cons {x : Str} {c : Value} {ts : Addr → Value → Option Addr → TS} {b₀ : Stmt} {suite : List Stmt} {np pos' : Pos} {hds : List ExceptHandler} {l : List (Value × (Addr → Value → Option Addr → TS))} (hc : Names X x c)
      (hsu : ∀ (a : Addr) (oe : Obj) (cls : Value) (d : Option Addr) (pn : List (Addr × Obj)), Zc cls d oe → (∃ vs, oe.data = .fields vs) → PSs (X.suite a ((a, oe) :: pn)) (b₀ :: suite) (ts a cls d)) (r : HdsAs X n hds l) :
      HdsAs X n (.ExceptHandler (some (.Name x np)) (some n) (b₀ :: suite) pos' :: hds) ((c, ts) :: l)
section
variable {X : Cx} {n : Str} {i : Nat} {body : List Stmt} {h₀ : ExceptHandler} {hds : List ExceptHandler} {l : List (Value × (Addr → Value → Option Addr → TS))} {pos : Pos} {tb : WX → TS} {Wout : WX}
theorem ps_try_manyAs (hs : X.stack = X.env :: X.outer) (hf : X.env.frame = some X.env.locals) (hN : X.N.Nodup) (hi : X.N[i]? = some n) (hln : X.env.kindOf n = some .local) (tk : Takes X Wout)
    (hb : ∀ (W : WX) (pn : List (Addr × Obj)) (xe : Value → Shared → Prop), Takes (X.tr pn xe) W → PassesOwn (model X.prog X.w) X.A X.env xe → PSs (X.tr pn xe) body (tb W))
    (hh : HdsAs X n (h₀ :: hds) l) : PS X (.Try body (h₀ :: hds) [] [] pos) (fun D σ H => tb (wManyAs X.K i Wout D l) D σ H) := by
  refine ⟨fun pins s σ H D I h => ?_⟩
  have ok := I.ok
  have hfr : X.A.frames = some (X.env :: X.outer) := by rw [ok.frames, hs]
  have hloc : Loc X.env.scope n := .inl hln
  refine wpAny_Try_except ?_
  refine wpAny_mono ((hb (wManyAs X.K i Wout D l) (X.pn ++ pins) (fun e s₁ => wpAny (model X.prog X.w) X.A (noteFrame e X.env) (fun _ s₂ => wpAny (model X.prog X.w) X.A (setFlight e none) (fun _ s₃ =>
    wpAny (model X.prog X.w) X.A (handleBy e X.env (h₀ :: hds)) (SP X pins D) X.xe s₃) X.xe s₂) X.xe s₁) (fun u s' xx => ?_) PassesOwn.looking).run [] s σ H D (I.toTry _) h) (fun f s1 hsp => ?_) (fun e s1 he => he)
  · obtain ⟨a, B, sI, pins', σ', H', cls, d, rfl, J', nb, up, sky, na, os, ag, w⟩ := xx
    have J : Inv X pins σ' H' sI := J'.ofTry ok
    have sky' : Sky B (X.env :: X.outer) a (Zc cls d) X.env.locals s'.heap := by rw [← hs]; exact sky
    show wpAny (model X.prog X.w) X.A (noteFrame (.ref a) X.env) _ _ _
    refine Sky.land Zc.steady hfr hf sky' fun h3 fl3 up3 => ?_
    have J3 : Inv X pins σ' H' { s' with heap := h3 } := J.landed nb fl3.1 (up.trans up3) os ag
    obtain ⟨oe3, vs3, he3, hz3, hd3⟩ := fl3.there
    have notFr : ∀ {h : Heap} {o : Obj} {vs : Array Value}, h.FunFrames B (X.env :: X.outer) → h.get? a = some o → o.data = .fields vs → a ∉ frs (X.env :: X.outer) := fun {h o vs} ff e dd hm => by
      obtain ⟨_, o', e', hnf⟩ := ff.mem hm
      rw [e] at e'; cases e'
      exact hnf _ dd
    have nfr := notFr fl3.2.2.1 he3 hd3
    have nL : a ≠ X.env.locals := fun z => nfr (List.mem_filterMap.mpr ⟨X.env, List.mem_cons_self, by rw [hf, z]⟩)
    have nF : a ∉ X.fs := fun hm => by
      obtain ⟨e, he, q⟩ := List.mem_filterMap.mp hm
      exact nfr (List.mem_filterMap.mpr ⟨e, List.mem_cons_of_mem _ he, q⟩)
    have S3 := J3.suite he3 hd3 na nL nF
    have go : ∀ {hds' : List ExceptHandler} {l' : List (Value × (Addr → Value → Option Addr → TS))}, HdsAs X n hds' l' → wManyAs X.K i Wout D l' cls d σ' H' →
        wpAny (model X.prog X.w) X.A (handleBy (.ref a) X.env hds') (SP X pins D) X.xe { s' with heap := h3 } := by
      intro hds' l' hk
      induction hk with
      | nil =>
        intro w
        refine wpAny_handleBy_nil ?_
        obtain ⟨k1, k2, k3, oe, vs, T, oT, ts', he, hz, hd, h1, hr⟩ := id fl3
        unfold PySem.passOn
        refine wpAny_bind (wpAny_field he hd h1 ?_)
        rw [if_neg (show ¬ ((Value.ref T == Value.none) = true) from by simp)]
        have fin : wpAny (model X.prog X.w) X.A (setFlight (.ref a) X.env.frame) (fun _ s4 => wpAny (model X.prog X.w) X.A (throw (.ref a) : Sem Flow) (SP X pins D) X.xe s4) X.xe { s' with heap := h3 } := by
          rw [hf]
          refine HandSPX.setFlight_upZ fl3 fun h4 hh4 up4 => wpAny_throw (tk _ _ ?_)
          exact ⟨a, B, sI, pins, σ', H', cls, d, rfl, J, nb, (up.trans up3).trans up4, .inr (.inr (by rw [hs]; exact hh4)), na, os, ag, w⟩
        first
          | exact wpAny_bind (wpAny_pure (wpAny_bind fin))
          | exact wpAny_bind fin
      | @cons x c ts b₀ suite np pos' hds2 l2 hc hsu r ih =>
        intro w
        obtain ⟨b, hb1, hyes, hno⟩ := w
        refine wpAny_handleBy_cons (codeAny_handlers_test ?_) (by intro q; cases q)
        have LT : PySem.W.Looks (model X.prog X.w) h3 (typeOf (.ref a)) cls := fun A Q E s k q => wpAny_typeOf_ref (k _ _ he3) (by rw [hz3.1]; exact q)
        have LM := PySem.W.exm_one (M := model X.prog X.w) (J3.kIn) LT hb1
        have test : ∀ {Q : Value → Shared → Prop} {E : Value → Shared → Prop}, Q c { s' with heap := h3 } → wpAny (model X.prog X.w) (X.A.mark (some (.ref a))) (eval (.Name x np) X.env) Q E { s' with heap := h3 } := fun {Q E} q => by
          obtain ⟨hg, hdbg, hm | ⟨hm, hv, hnn⟩⟩ := hc
          · exact ld_glob (X := X.suite a ((a, oe3) :: (X.pn ++ pins))) S3 hg hm q hdbg
          · exact ld_blt (X := X.suite a ((a, oe3) :: (X.pn ++ pins))) S3 hg hm hv q hnn hdbg
        refine test (LM.here ?_)
        cases b with
        | true =>
          refine codeAny_handlers_suite_as ?_
          refine HandSPX.lands_againZ fl3 fun h4 fl4 up4 => ?_
          have J4 : Inv X pins σ' H' { s' with heap := h4 } := J.landed nb fl4.1 ((up.trans up3).trans up4) os ag
          obtain ⟨oe4, vs4, he4, hz4, hd4⟩ := fl4.there
          have S4 := J4.suite he4 hd4 na nL nF
          refine store_ok (X := X.suite a ((a, oe4) :: (X.pn ++ pins))) (v := .ref a) S4 hN hi hloc rfl (fun s5 S5 => ?_) (.inr hln)
          refine wpAny_mono ((hsu a oe4 cls d (X.pn ++ pins) hz4 ⟨_, hd4⟩).run [] s5 _ H' _ S5 (hyes rfl a na)) (fun f s6 hsp => ?_) (fun _ _ z => False.elim z)
          have end_ : ∀ {σ6 : L2.St} {H6 : Hp} {Q : Shared → Prop}, Inv (X.suite a ((a, oe4) :: (X.pn ++ pins))) [] σ6 H6 s6 → (∀ s7, Inv X pins (σ6.set i none) H6 s7 → Q s7) →
              wpAny (model X.prog X.w) X.A (do bindName X.env n .none; unbindBehindTheSuite X.env n pos') (fun _ s7 => Q s7) X.xe s6 := fun {σ6 H6 Q} S6 hq => gone_ok (S6.unsuite ok) hN hi hln hq
          cases f with
          | next =>
            obtain ⟨σ6, H6, S6, q6⟩ := hsp
            exact end_ S6 fun s7 J7 => ⟨_, _, J7, q6⟩
          | brk =>
            obtain ⟨σ6, H6, S6, q6⟩ := hsp
            exact end_ S6 fun s7 J7 => ⟨_, _, J7, q6⟩
          | cont =>
            obtain ⟨σ6, H6, S6, q6⟩ := hsp
            exact end_ S6 fun s7 J7 => ⟨_, _, J7, q6⟩
          | ret u =>
            obtain ⟨v6, σ6, H6, S6, r6, q6⟩ := hsp
            exact end_ S6 fun s7 J7 => ⟨_, _, _, J7, r6, q6⟩
        | false =>
          show wpAny _ X.A (handleBy (.ref a) X.env hds2) _ _ _
          exact ih (hno rfl)
    exact go hh w
  · cases f with
    | next =>
      obtain ⟨σ', H', J', q⟩ := hsp
      exact wpAny_execs_nil ⟨σ', H', J'.ofTry ok, q⟩
    | brk =>
      obtain ⟨σ', H', J', q⟩ := hsp
      exact ⟨σ', H', J'.ofTry ok, q⟩
    | cont =>
      obtain ⟨σ', H', J', q⟩ := hsp
      exact ⟨σ', H', J'.ofTry ok, q⟩
    | ret u =>
      obtain ⟨v, σ', H', J', r, q⟩ := hsp
      exact ⟨v, σ', H', J'.ofTry ok, r, q⟩
end
end Ow

/-! ## W0 -/
set_option Elab.async false
set_option linter.all false
set_option maxRecDepth 100000
set_option maxHeartbeats 4000000
/-! The text and what it names. -/
namespace Ow
open PySem PySem.Spec PyProof.Rows L2
def topS (i : Nat) : Stmt := PySem.Challenge.pw_onewitness_k07_whole_open_lots_of_any_ma.main.body.getD i (.Pass ⟨0, 0, 0, 0⟩)
theorem hu10_of {A : Around} {k : Nat} (hr : Room k A) : A.units + 10 < cLine := by have := hr.units; omega
section
variable {X : Cx} {x : Str} {pos : Pos}
/-- a module's constant, a number -/
theorem pe_const {n : Int} (hg : Gl X x) (h : ∃ t, X.mg x = some (.int n t)) (hd : (x == ("__debug__" : Str)) = false := by decide) : PE X (.Name x pos) (tC (.int n)) := by
  obtain ⟨t, h⟩ := h
  exact pe_glob hg h ⟨t, rfl⟩ hd
/-- a built-in class as a value -/
theorem pe_ty {n : String} (hg : Gl X x) (hm : X.mg x = none) (hv : bootBuiltins x = some (.type n)) (hn : x ≠ "__name__" := by decide) (hd : (x == ("__debug__" : Str)) = false := by decide) : PE X (.Name x pos) (tC (.ty n)) :=
  pe_bltn hg hm hv rfl hn hd
theorem pi_listK (K : PySem.W.Frag) {tg e : Expr} {tl : TE} (he : PE X e tl) (hK : X.K = K := by rfl) : PI X tg e (iList K tl) := by
  subst hK
  exact pi_list he
theorem pi_tupK (K : PySem.W.Frag) {tg e : Expr} {tl : TE} (he : PE X e tl) (hK : X.K = K := by rfl) : PI X tg e (iTup K tl) := by
  subst hK
  exact pi_tup he
theorem passX {W : WX} {Ec : XK} (tk : Takes X W) (h : ∀ cls d σ H, Ec cls d H → W cls d σ H) : Passes (L2.CX X.prog X.w) X Ec := passes_call tk h
end
/-- the built-in names are the built-ins; the constants -/
structure Tx (mg : Str → Option Value) : Prop where
  n_len : mg "len" = none
  n_isinstance : mg "isinstance" = none
  n_int : mg "int" = none
  n_bool : mg "bool" = none
  n_list : mg "list" = none
  n_tuple : mg "tuple" = none
  n_abs : mg "abs" = none
  n_all : mg "all" = none
  n_max : mg "max" = none
  n_sum : mg "sum" = none
  n_repr : mg "repr" = none
  n_set : mg "set" = none
  n_zip : mg "zip" = none
  n_range : mg "range" = none
  n_sorted : mg "sorted" = none
  n_enumerate : mg "enumerate" = none
  k_MOST_DEEDS : ∃ t, mg "MOST_DEEDS" = some (.int 4 t)
  k_MOST_STATES : ∃ t, mg "MOST_STATES" = some (.int 8 t)
  k_MOST_ROUND : ∃ t, mg "MOST_ROUND" = some (.int 60 t)
  k_MOST_REST : ∃ t, mg "MOST_REST" = some (.int 6 t)
/-- the readings of len, tuple, by the written part -/
abbrev rLenOf (K : PySem.W.Frag) : List V → Hp → VK → Prop := fun xs H Q => ∃ p ys, xs = [.ref p] ∧ (SqL K H p ys ∨ SqT K H p ys) ∧ Q (.int ys.length) H
abbrev rTupOf (K : PySem.W.Frag) : List V → Hp → VK → Prop := fun xs H Q => ∃ p ys, xs = [.ref p] ∧ ((SqL K H p ys ∧ ∀ l, H l = none → Q (.ref l) (upd H l (.tup ys))) ∨ (SqT K H p ys ∧ Q (.ref p) H))
/-! ### data -/
abbrev nV (n : Nat) : V := .int (n : Nat)
abbrev nVs (l : List Nat) : List V := l.map nV
theorem nVs_len (l : List Nat) : (nVs l).length = l.length := List.length_map ..
theorem nVs_get {l : List Nat} {i n : Nat} (h : l[i]? = some n) : (nVs l)[i]? = some (nV n) := by rw [List.getElem?_map, h]; rfl
theorem nVs_back {l : List Nat} {i : Nat} {x : V} (h : (nVs l)[i]? = some x) : ∃ n, l[i]? = some n ∧ x = nV n := by
  rw [List.getElem?_map] at h
  cases e : l[i]? with
  | none => rw [e] at h; cases h
  | some n => rw [e] at h; exact ⟨n, rfl, (Option.some.inj h).symm⟩
theorem nVs_int (l : List Nat) : nVs l = (l.map fun n : Nat => (n : Int)).map V.int := by rw [List.map_map]; rfl
theorem nV_inj {a b : Nat} (h : nV a = nV b) : a = b := by
  have h' : (V.int (a : Nat)) = V.int (b : Nat) := h
  injection h' with h'
  omega
/-- a list of numbers, a tuple of numbers, a tuple of such -/
def LN (H : Hp) (a : Addr) (l : List Nat) : Prop := H a = some (.lst (nVs l))
def TN (H : Hp) (a : Addr) (l : List Nat) : Prop := H a = some (.tup (nVs l))
def TT2 (H : Hp) (a : Addr) (ts : List (List Nat)) : Prop := ∃ as : List Addr, H a = some (.tup (as.map V.ref)) ∧ Paired (TN H) as ts
theorem TN.same {H H' : Hp} {a : Addr} {l : List Nat} (h : TN H a l) (s : Same H H') : TN H' a l := s _ _ h
theorem LN.same {H H' : Hp} {a : Addr} {l : List Nat} (h : LN H a l) (s : Same H H') : LN H' a l := s _ _ h
theorem TT2.same {H H' : Hp} {a : Addr} {ts : List (List Nat)} (h : TT2 H a ts) (s : Same H H') : TT2 H' a ts := by
  obtain ⟨as, h1, h2⟩ := h
  exact ⟨as, s _ _ h1, Paired.mapP h2 fun _ _ z => TN.same z s⟩
theorem TN.sq {K : PySem.W.Frag} {H : Hp} {a : Addr} {l : List Nat} (h : TN H a l) : SqT K H a (nVs l) := SqT.of h
theorem LN.sq {K : PySem.W.Frag} {H : Hp} {a : Addr} {l : List Nat} (h : LN H a l) : SqL K H a (nVs l) := SqL.of h
theorem Same.upd {H : Hp} {p : Addr} {o : HO} (h : H p = none) : Same H (upd H p o) := same_new h
theorem Same.updR {H H' : Hp} {p : Addr} {o : HO} (s : Same H H') (h : H p = none) : Same H (L2.upd H' p o) := fun b u e => by
  rw [upd_ne (ne_of_none e h)]
  exact s b u e
theorem small8 {n : Nat} (h : n ≤ 8) : n ≤ sizeLine := Nat.le_trans h (by decide)
end Ow

/-! ## W0b -/
set_option Elab.async false
set_option linter.all false
set_option maxRecDepth 100000
set_option maxHeartbeats 4000000
/-! What stays; comprehensions whose items are made one by one. -/
namespace Ow
open PySem PySem.Spec PyProof.Rows L2
section
variable {c A B : Prop} [Decidable c]
theorem iteDT (hc : c) (h : A) : if decide c = true then A else B := by rw [if_pos (decide_eq_true hc)]; exact h
theorem iteDF (hc : ¬ c) (h : B) : if decide c = true then A else B := by rw [if_neg (by rw [decide_eq_false hc]; exact Bool.false_ne_true)]; exact h
theorem iteND (hc : ¬ c) (h : A) : if (!decide c) = true then A else B := by rw [if_pos (by rw [decide_eq_false hc]; rfl)]; exact h
theorem iteNT (hc : c) (h : B) : if (!decide c) = true then A else B := iteNS hc h
end
theorem iteTb {b : Bool} {A B : Prop} (hb : b = true) (h : A) : if b = true then A else B := by rw [if_pos hb]; exact h
theorem iteFb {b : Bool} {A B : Prop} (hb : b = false) (h : B) : if b = true then A else B := by rw [if_neg (by rw [hb]; exact Bool.false_ne_true)]; exact h
/-- all but what E tells stays -/
def SmE (E : Addr → Prop) (H H' : Hp) : Prop := ∀ b o, ¬ E b → H b = some o → H' b = some o
abbrev E0' : Addr → Prop := fun _ => False
/-- all but x stays -/
abbrev SameX (x : Addr) (H H' : Hp) : Prop := SmE (fun b => b = x) H H'
section
variable {E : Addr → Prop} {H H1 H2 H' : Hp} {x p : Addr} {o : HO}
theorem SmE.refl : SmE E H H := fun _ _ _ e => e
theorem SmE.trans (a : SmE E H H1) (b : SmE E H1 H2) : SmE E H H2 := fun c o n e => b c o n (a c o n e)
theorem SmE.of (s : Same H H') : SmE E H H' := fun b o _ e => s b o e
theorem SmE.same (s : SmE E0' H H') : Same H H' := fun b o e => s b o (fun z => z) e
theorem SmE.weak {E' : Addr → Prop} (s : SmE E H H') (h : ∀ b, E b → E' b) : SmE E' H H' := fun b o n e => s b o (fun z => n (h b z)) e
theorem SmE.new (s : SmE E H H') (h : H p = none) : SmE E H (upd H' p o) := fun b u n e => by
  rw [upd_ne (ne_of_none e h)]
  exact s b u n e
theorem SmE.updE (s : SmE E H H') (h : E p) : SmE E H (upd H' p o) := fun b u n e => by
  rw [upd_ne (fun z => n (by rw [z]; exact h))]
  exact s b u n e
theorem SmE.free (s : SmE E H H') (n : ¬ E p) (h : H' p = none) : H p = none := by
  cases q : H p with
  | none => rfl
  | some o => rw [s p o n q] at h; cases h
end
/-! ### comprehensions -/
section
variable {K : PySem.W.Frag} {a D : Addr} {xs : List V} {g : TG} {te : TE} {vs : List Nat} {σ : L2.St} {H1 : Hp} {Qd : Hp → Prop} (E : Addr → Prop) (J : Hp → Prop) (R : Nat → V → Hp → Prop)
/-- the state behind i items -/
def LcI (E : Addr → Prop) (J : Hp → Prop) (R : Nat → V → Hp → Prop) (H1 : Hp) (D : Addr) (i : Nat) (H : Hp) : Prop := SmE E H1 H ∧ J H ∧ ∃ ys : List V, H D = some (.lst ys) ∧ ys.length = i ∧ ∀ (j : Nat) y, ys[j]? = some y → R j y H
theorem lcI_start (hD : H1 D = none) (hJ : J H1) (hJu : ∀ H o, J H → J (upd H D o)) : LcI E J R H1 D 0 (upd H1 D (.lst [])) :=
  ⟨SmE.new .refl hD, hJu _ _ hJ, [], upd_same, rfl, fun j y h => by simp at h⟩
theorem lcI_step {i : Nat} {H H4 : Hp} {y : V} {ys : List V} (nD : ¬ E D) (hD : H1 D = none) (hJu : ∀ H o, J H → J (upd H D o)) (mono : ∀ i v H H', J H → (∃ ys, H D = some (.lst ys)) → R i v H → SmE (fun b => E b ∨ b = D) H H' → R i v H')
    (s1 : SmE E H1 H) (j1 : J H) (e1 : H D = some (.lst ys)) (l1 : ys.length = i) (r1 : ∀ (j : Nat) y, ys[j]? = some y → R j y H) (s4 : SmE E H H4) (j4 : J H4) (r4 : R i y H4) : LcI E J R H1 D (i + 1) (upd H4 D (.lst (ys ++ [y]))) := by
  have e4 : H4 D = some (.lst ys) := s4 D _ nD e1
  have w4 : SmE (fun b => E b ∨ b = D) H4 (upd H4 D (.lst (ys ++ [y]))) := SmE.updE .refl (.inr rfl)
  refine ⟨SmE.new (s1.trans s4) hD, hJu _ _ j4, ys ++ [y], upd_same, by simp [l1], fun j v hv => ?_⟩
  rcases Nat.lt_trichotomy j i with h | h | h
  · rw [List.getElem?_append_left (by omega)] at hv
    exact mono j v H _ j1 ⟨ys, e1⟩ (r1 j v hv) ((s4.weak fun b z => .inl z).trans w4)
  · subst h
    rw [List.getElem?_append_right (by omega), l1] at hv
    simp at hv
    subst hv
    exact mono _ _ H4 _ j4 ⟨ys, e4⟩ r4 w4
  · rw [List.getElem?_eq_none (by simp; omega)] at hv
    cases hv
theorem lcE_list (hD : H1 D = none) (nD : ¬ E D) (hn : xs.length ≤ sizeLine) (hJ : J H1) (hJu : ∀ H o, J H → J (upd H D o)) (hl : ∀ H, SmE E H1 H → J H → SqL K H a xs) (mono : ∀ i v H H', J H → (∃ ys, H D = some (.lst ys)) → R i v H → SmE (fun b => E b ∨ b = D) H H' → R i v H')
    (hs : ∀ i x H (k : V → Hp → Prop), xs[i]? = some x → SmE E H1 H → J H → (∃ ys, H D = some (.lst ys)) → (∀ y H4, SmE E H H4 → J H4 → R i y H4 → k y H4) → g x (wipe σ vs) H fun σ2 H2 => wipe σ2 vs = wipe σ vs ∧ te σ2 H2 k)
    (hd : ∀ H ys, SmE E H1 H → J H → H D = some (.lst ys) → ys.length = xs.length → (∀ (j : Nat) y, ys[j]? = some y → R j y H) → Qd H) :
    ∃ W : Nat → Nat → Hp → Prop, (∃ m, W 0 m (upd H1 D (.lst []))) ∧ ∀ i m H, W i m H →
      ((Itl K a).stop i H ∧ Qd H) ∨ ((Itl K a).go i H ∧ ∃ Nx : Hp → Prop, (∀ H', Nx H' → ∃ m', m' < m ∧ W (i + 1) m' H') ∧ ∀ x H', (Itl K a).yld i H x H' → g x (wipe σ vs) H' fun σ2 H2 => wipe σ2 vs = wipe σ vs ∧ tYes σ2 H2 fun b H3 =>
        if b = true then te σ2 H3 fun y H4 => ∃ acc, H4 D = some (.lst acc) ∧ acc.length < sizeLine ∧ Nx (upd H4 D (.lst (acc ++ [y]))) else Nx H3) := by
  refine lc_list (xs := xs) (fun i H => LcI E J R H1 D i H) (lcI_start E J R hD hJ hJu) (fun i H _ p => hl H p.1 p.2.1) (fun i x H hx p => ?_) (fun H p => ?_)
  · obtain ⟨s1, j1, ys, e1, l1, r1⟩ := p
    have hi : i < xs.length := (List.getElem?_eq_some_iff.mp hx).1
    exact hs i x H _ hx s1 j1 ⟨ys, e1⟩ fun y H4 s4 j4 r4 => ⟨ys, s4 D _ nD e1, by omega, lcI_step E J R nD hD hJu mono s1 j1 e1 l1 r1 s4 j4 r4⟩
  · obtain ⟨s1, j1, ys, e1, l1, r1⟩ := p
    exact hd H ys s1 j1 e1 l1 r1
theorem lcE_tup (hD : H1 D = none) (nD : ¬ E D) (hn : xs.length ≤ sizeLine) (hJ : J H1) (hJu : ∀ H o, J H → J (upd H D o)) (hl : ∀ H, SmE E H1 H → J H → SqT K H a xs) (mono : ∀ i v H H', J H → (∃ ys, H D = some (.lst ys)) → R i v H → SmE (fun b => E b ∨ b = D) H H' → R i v H')
    (hs : ∀ i x H (k : V → Hp → Prop), xs[i]? = some x → SmE E H1 H → J H → (∃ ys, H D = some (.lst ys)) → (∀ y H4, SmE E H H4 → J H4 → R i y H4 → k y H4) → g x (wipe σ vs) H fun σ2 H2 => wipe σ2 vs = wipe σ vs ∧ te σ2 H2 k)
    (hd : ∀ H ys, SmE E H1 H → J H → H D = some (.lst ys) → ys.length = xs.length → (∀ (j : Nat) y, ys[j]? = some y → R j y H) → Qd H) :
    ∃ W : Nat → Nat → Hp → Prop, (∃ m, W 0 m (upd H1 D (.lst []))) ∧ ∀ i m H, W i m H →
      ((Itt K a).stop i H ∧ Qd H) ∨ ((Itt K a).go i H ∧ ∃ Nx : Hp → Prop, (∀ H', Nx H' → ∃ m', m' < m ∧ W (i + 1) m' H') ∧ ∀ x H', (Itt K a).yld i H x H' → g x (wipe σ vs) H' fun σ2 H2 => wipe σ2 vs = wipe σ vs ∧ tYes σ2 H2 fun b H3 =>
        if b = true then te σ2 H3 fun y H4 => ∃ acc, H4 D = some (.lst acc) ∧ acc.length < sizeLine ∧ Nx (upd H4 D (.lst (acc ++ [y]))) else Nx H3) := by
  refine lc_tup (xs := xs) (fun i H => LcI E J R H1 D i H) (lcI_start E J R hD hJ hJu) (fun i H _ p => hl H p.1 p.2.1) (fun i x H hx p => ?_) (fun H p => ?_)
  · obtain ⟨s1, j1, ys, e1, l1, r1⟩ := p
    have hi : i < xs.length := (List.getElem?_eq_some_iff.mp hx).1
    exact hs i x H _ hx s1 j1 ⟨ys, e1⟩ fun y H4 s4 j4 r4 => ⟨ys, s4 D _ nD e1, by omega, lcI_step E J R nD hD hJu mono s1 j1 e1 l1 r1 s4 j4 r4⟩
  · obtain ⟨s1, j1, ys, e1, l1, r1⟩ := p
    exact hd H ys s1 j1 e1 l1 r1
theorem lcE_range {n : Nat} (hD : H1 D = none) (nD : ¬ E D) (hn : n ≤ sizeLine) (hJ : J H1) (hJu : ∀ H o, J H → J (upd H D o)) (mono : ∀ i v H H', J H → (∃ ys, H D = some (.lst ys)) → R i v H → SmE (fun b => E b ∨ b = D) H H' → R i v H')
    (hs : ∀ i H (k : V → Hp → Prop), i < n → SmE E H1 H → J H → (∃ ys, H D = some (.lst ys)) → (∀ y H4, SmE E H H4 → J H4 → R i y H4 → k y H4) → g (nV i) (wipe σ vs) H fun σ2 H2 => wipe σ2 vs = wipe σ vs ∧ te σ2 H2 k)
    (hd : ∀ H ys, SmE E H1 H → J H → H D = some (.lst ys) → ys.length = n → (∀ (j : Nat) y, ys[j]? = some y → R j y H) → Qd H) :
    ∃ W : Nat → Nat → Hp → Prop, (∃ m, W 0 m (upd H1 D (.lst []))) ∧ ∀ i m H, W i m H →
      ((Itr 0 n).stop i H ∧ Qd H) ∨ ((Itr 0 n).go i H ∧ ∃ Nx : Hp → Prop, (∀ H', Nx H' → ∃ m', m' < m ∧ W (i + 1) m' H') ∧ ∀ x H', (Itr 0 n).yld i H x H' → g x (wipe σ vs) H' fun σ2 H2 => wipe σ2 vs = wipe σ vs ∧ tYes σ2 H2 fun b H3 =>
        if b = true then te σ2 H3 fun y H4 => ∃ acc, H4 D = some (.lst acc) ∧ acc.length < sizeLine ∧ Nx (upd H4 D (.lst (acc ++ [y]))) else Nx H3) := by
  refine lc_range (lo := 0) (n := n) (fun i H => LcI E J R H1 D i H) (lcI_start E J R hD hJ hJu) (fun i H hi p => ?_) (fun H p => ?_)
  · obtain ⟨s1, j1, ys, e1, l1, r1⟩ := p
    rw [show (V.int (0 + (i : Nat))) = nV i from by rw [Int.zero_add]]
    exact hs i H _ hi s1 j1 ⟨ys, e1⟩ fun y H4 s4 j4 r4 => ⟨ys, s4 D _ nD e1, by omega, lcI_step E J R nD hD hJu mono s1 j1 e1 l1 r1 s4 j4 r4⟩
  · obtain ⟨s1, j1, ys, e1, l1, r1⟩ := p
    exact hd H ys s1 j1 e1 l1 r1
/-- over anything that is walked -/
theorem lcE_it {I0 : It} {n : Nat} (X : Nat → V → Hp → Prop) (hD : H1 D = none) (nD : ¬ E D) (hn : n ≤ sizeLine) (hJ : J H1) (hJu : ∀ H o, J H → J (upd H D o)) (mono : ∀ i v H H', J H → (∃ ys, H D = some (.lst ys)) → R i v H → SmE (fun b => E b ∨ b = D) H H' → R i v H')
    (hgo : ∀ i H, i < n → SmE E H1 H → J H → I0.go i H) (hst : ∀ H, SmE E H1 H → J H → I0.stop n H) (hy : ∀ i H x H', i < n → SmE E H1 H → J H → I0.yld i H x H' → SmE E H H' ∧ J H' ∧ X i x H')
    (hs : ∀ i x H (k : V → Hp → Prop), i < n → X i x H → SmE E H1 H → J H → (∃ ys, H D = some (.lst ys)) → (∀ y H4, SmE E H H4 → J H4 → R i y H4 → k y H4) → g x (wipe σ vs) H fun σ2 H2 => wipe σ2 vs = wipe σ vs ∧ te σ2 H2 k)
    (hd : ∀ H ys, SmE E H1 H → J H → H D = some (.lst ys) → ys.length = n → (∀ (j : Nat) y, ys[j]? = some y → R j y H) → Qd H) :
    ∃ W : Nat → Nat → Hp → Prop, (∃ m, W 0 m (upd H1 D (.lst []))) ∧ ∀ i m H, W i m H →
      (I0.stop i H ∧ Qd H) ∨ (I0.go i H ∧ ∃ Nx : Hp → Prop, (∀ H', Nx H' → ∃ m', m' < m ∧ W (i + 1) m' H') ∧ ∀ x H', I0.yld i H x H' → g x (wipe σ vs) H' fun σ2 H2 => wipe σ2 vs = wipe σ vs ∧ tYes σ2 H2 fun b H3 =>
        if b = true then te σ2 H3 fun y H4 => ∃ acc, H4 D = some (.lst acc) ∧ acc.length < sizeLine ∧ Nx (upd H4 D (.lst (acc ++ [y]))) else Nx H3) := by
  refine ⟨fun i m H => m = n - i ∧ i ≤ n ∧ LcI E J R H1 D i H, ⟨n, by simp, Nat.zero_le _, lcI_start E J R hD hJ hJu⟩, ?_⟩
  rintro i m H ⟨rfl, hi, s1, j1, ys, e1, l1, r1⟩
  by_cases hlt : i < n
  · refine .inr ⟨hgo i H hlt s1 j1, LcI E J R H1 D (i + 1), fun H' p' => ⟨n - (i + 1), by omega, rfl, hlt, p'⟩, fun x H' y => ?_⟩
    obtain ⟨s2, j2, hx⟩ := hy i H x H' hlt s1 j1 y
    have e2 := s2 D _ nD e1
    have r2 : ∀ (j : Nat) y, ys[j]? = some y → R j y H' := fun j y h => mono j y H H' j1 ⟨ys, e1⟩ (r1 j y h) (s2.weak fun b z => .inl z)
    exact hs i x H' _ hlt hx (s1.trans s2) j2 ⟨ys, e2⟩ fun y H4 s4 j4 r4 => ⟨ys, s4 D _ nD e2, by omega, lcI_step E J R nD hD hJu mono (s1.trans s2) j2 e2 l1 r2 s4 j4 r4⟩
  · have e : i = n := by omega
    subst e
    exact .inl ⟨hst H s1 j1, hd H ys s1 j1 e1 l1 r1⟩
end
/-- a for over anything that is walked -/
theorem for_it {I0 : It} {n : Nat} {g : TG} {tb : TS} {D : Ends} {σ : L2.St} {H : Hp} (Pv : Nat → L2.St → Hp → Prop) (h0 : Pv 0 σ H) (hgo : ∀ i σ H, i < n → Pv i σ H → I0.go i H) (hst : ∀ σ H, Pv n σ H → I0.stop n H)
    (hs : ∀ i x σ H H', i < n → Pv i σ H → I0.yld i H x H' → g x σ H' fun σ2 H2 => tb { D with nx := Pv (i + 1), ct := Pv (i + 1), bk := D.nx } σ2 H2) (hd : ∀ σ H, Pv n σ H → D.nx σ H) :
    ∃ W : Nat → Nat → L2.St → Hp → Prop, (∃ m, W 0 m σ H) ∧ ∀ i m σ H, W i m σ H →
      (I0.stop i H ∧ D.nx σ H) ∨ (I0.go i H ∧ ∃ N : L2.St → Hp → Prop, (∀ σ' H', N σ' H' → ∃ m', m' < m ∧ W (i + 1) m' σ' H') ∧ ∀ x H', I0.yld i H x H' → g x σ H' fun σ2 H2 => tb { D with nx := N, ct := N, bk := D.nx } σ2 H2) := by
  refine ⟨fun i m σ H => m = n - i ∧ i ≤ n ∧ Pv i σ H, ⟨n, by simp, Nat.zero_le _, h0⟩, ?_⟩
  rintro i m σ H ⟨rfl, hi, p⟩
  by_cases hlt : i < n
  · exact .inr ⟨hgo i σ H hlt p, Pv (i + 1), fun σ' H' p' => ⟨n - (i + 1), by omega, rfl, hlt, p'⟩, fun x H' y => hs i x σ H H' hlt p y⟩
  · have e : i = n := by omega
    subst e
    exact .inl ⟨hst σ H p, hd σ H p⟩
/-- all items are what f says -/
theorem all_items {ys : List V} {n : Nat} {f : Nat → V} (hl : ys.length = n) (h : ∀ (j : Nat) y, ys[j]? = some y → y = f j) : ys = (List.range n).map f := by
  apply List.ext_getElem?
  intro j
  by_cases hj : j < n
  · rw [List.getElem?_map, List.getElem?_range hj]
    obtain ⟨y, hy⟩ : ∃ y, ys[j]? = some y := ⟨ys[j], List.getElem?_eq_getElem (by omega)⟩
    rw [hy, h j y hy]
    rfl
  · rw [List.getElem?_eq_none (by omega), List.getElem?_eq_none (by simp; omega)]
end Ow

/-! ## W1 -/
set_option Elab.async false
set_option linter.all false
set_option maxRecDepth 100000
set_option maxHeartbeats 4000000
/-! The words: is_integer .. is_sequence -/
namespace Ow
open PySem PySem.Spec PyProof.Rows L2
abbrev s_is_integer : Stmt := topS 13
theorem c_is_integer : FnScope ["value"] ["value"] (defScope s_is_integer) := ⟨rfl, rfl, rfl, by decide +kernel, rfl, by decide +kernel, by decide +kernel⟩
abbrev s_is_number : Stmt := topS 14
theorem c_is_number : FnScope ["value"] ["value"] (defScope s_is_number) := ⟨rfl, rfl, rfl, by decide +kernel, rfl, by decide +kernel, by decide +kernel⟩
abbrev s_is_below : Stmt := topS 15
theorem c_is_below : FnScope ["value", "most"] ["value", "most"] (defScope s_is_below) := ⟨rfl, rfl, rfl, by decide +kernel, rfl, by decide +kernel, by decide +kernel⟩
abbrev s_is_within : Stmt := topS 16
theorem c_is_within : FnScope ["value", "least", "most"] ["value", "least", "most"] (defScope s_is_within) := ⟨rfl, rfl, rfl, by decide +kernel, rfl, by decide +kernel, by decide +kernel⟩
abbrev s_is_sequence : Stmt := topS 17
theorem c_is_sequence : FnScope ["value"] ["value"] (defScope s_is_sequence) := ⟨rfl, rfl, rfl, by decide +kernel, rfl, by decide +kernel, by decide +kernel⟩

theorem k_int_int {K : PySem.W.Frag} : PySem.W.kitOne K (.type "int") (.type "int") = some true := kit_ty (by decide +kernel)
theorem k_int_bool {K : PySem.W.Frag} : PySem.W.kitOne K (.type "int") (.type "bool") = some false := kit_ty (by decide +kernel)
theorem k_list_lt {K : PySem.W.Frag} : PySem.W.kitAny K (.type "list") [.type "list", .type "tuple"] = some true := kitAny_cons (b := true) (kit_ty (by decide +kernel)) (fun z => by cases z) (fun _ => rfl)
theorem k_tuple_lt {K : PySem.W.Frag} : PySem.W.kitAny K (.type "tuple") [.type "list", .type "tuple"] = some true :=
  kitAny_cons (b := false) (kit_ty (by decide +kernel)) (fun _ => kitAny_cons (b := true) (kit_ty (by decide +kernel)) (fun z => by cases z) (fun _ => rfl)) (fun z => by cases z)
section
variable {P : Program} {w : World} {K : PySem.W.Frag} {mg : Str → Option Value} {base : Heap}
/-- of a whole number -/
def spIsInt : Sp := fun vs H Q _ => ∃ n : Int, vs = [.int n] ∧ Q (.bl true) H
theorem ok_is_integer {f : Addr} {fd : FuncData} (F : Fun K "is_integer" "is_integer" s_is_integer f fd) (T : Tx mg) : FnOk P w K mg base CX0 1 f fd ["value"] spIsInt := by
  refine F.ok c_is_integer (fun vs H Q E h => ?_) (fun cdv A outer s H vs Q E hr h => ?_)
  · obtain ⟨n, rfl, _⟩ := h
    rfl
  obtain ⟨n, rfl, q⟩ := h
  refine ⟨_, pss_one (ps_ret (pe_and (pe_callB (id := "isinstance") (r := rIsi K) call_isi (by rfl) T.n_isinstance (by decide +kernel) (pa_cons (pv 0) (pa_cons (pe_ty (n := "int") rfl T.n_int (by decide +kernel)) (pa_nil)))) (pe_one (pe_not (pe_callB (id := "isinstance") (r := rIsi K) call_isi (by rfl) T.n_isinstance (by decide +kernel) (pa_cons (pv 0) (pa_cons (pe_ty (n := "bool") rfl T.n_bool (by decide +kernel)) (pa_nil)))))))), ?_⟩
  refine ⟨_, rfl, _, _, .type "int", .type "int", true, rfl, .ty "int", .base (.int n), k_int_int, true, rfl, iteT ?_⟩
  exact ⟨_, rfl, _, _, .type "int", .type "bool", false, rfl, .ty "bool", .base (.int n), k_int_bool, _, rfl, q⟩
def spIsNum : Sp := fun vs H Q _ => ∃ n : Int, vs = [.int n] ∧ Q (.bl (decide (0 ≤ n))) H
theorem ok_is_number {f : Addr} {fd : FuncData} (F : Fun K "is_number" "is_number" s_is_number f fd) (C_is_integer : Cl P w K mg base CX0 1 "is_integer" ["value"] spIsInt []) : FnOk P w K mg base CX0 2 f fd ["value"] spIsNum := by
  refine F.ok c_is_number (fun vs H Q E h => ?_) (fun cdv A outer s H vs Q E hr h => ?_)
  · obtain ⟨n, rfl, _⟩ := h
    rfl
  obtain ⟨n, rfl, q⟩ := h
  refine ⟨_, pss_one (ps_ret (pe_and (pe_cl C_is_integer (hr.mono (by decide)) pass0 rfl (pa_cons (pv 0) (pa_nil))) (pe_one (pe_cmpR op_ge (pv 0) (pe_int) (nomark _))))), ?_⟩
  exact ⟨_, rfl, n, rfl, true, rfl, iteT ⟨_, rfl, _, _, rfl, rfl, q⟩⟩
def spIsBelow : Sp := fun vs H Q _ => ∃ n m : Int, vs = [.int n, .int m] ∧ Q (.bl (decide (0 ≤ n ∧ n < m))) H
theorem ok_is_below {f : Addr} {fd : FuncData} (F : Fun K "is_below" "is_below" s_is_below f fd) (C_is_number : Cl P w K mg base CX0 2 "is_number" ["value"] spIsNum []) : FnOk P w K mg base CX0 3 f fd ["value", "most"] spIsBelow := by
  refine F.ok c_is_below (fun vs H Q E h => ?_) (fun cdv A outer s H vs Q E hr h => ?_)
  · obtain ⟨n, m, rfl, _⟩ := h
    rfl
  obtain ⟨n, m, rfl, q⟩ := h
  refine ⟨_, pss_one (ps_ret (pe_and (pe_cl C_is_number (hr.mono (by decide)) pass0 rfl (pa_cons (pv 0) (pa_nil))) (pe_one (pe_cmpR op_lt (pv 0) (pv 1) (nomark _))))), ?_⟩
  refine ⟨_, rfl, n, rfl, decide (0 ≤ n), rfl, ?_⟩
  by_cases h0 : 0 ≤ n
  · rw [decide_eq_true h0]
    refine iteT ⟨_, rfl, _, rfl, _, _, rfl, rfl, ?_⟩
    simpa [h0] using q
  · rw [decide_eq_false h0]
    refine iteF ?_
    simpa [h0] using q
def spIsWithin : Sp := fun vs H Q _ => ∃ n l m : Int, vs = [.int n, .int l, .int m] ∧ Q (.bl (decide (l ≤ n ∧ n ≤ m))) H
theorem ok_is_within {f : Addr} {fd : FuncData} (F : Fun K "is_within" "is_within" s_is_within f fd) (C_is_integer : Cl P w K mg base CX0 1 "is_integer" ["value"] spIsInt []) : FnOk P w K mg base CX0 2 f fd ["value", "least", "most"] spIsWithin := by
  refine F.ok c_is_within (fun vs H Q E h => ?_) (fun cdv A outer s H vs Q E hr h => ?_)
  · obtain ⟨n, l, m, rfl, _⟩ := h
    rfl
  obtain ⟨n, l, m, rfl, q⟩ := h
  refine ⟨_, pss_one (ps_ret (pe_and (pe_cl C_is_integer (hr.mono (by decide)) pass0 rfl (pa_cons (pv 0) (pa_nil))) (pe_one (pe_chain op_le op_le (pv 1) (pv 0) (pv 2))))), ?_⟩
  refine ⟨_, rfl, n, rfl, true, rfl, iteT ?_⟩
  refine ⟨_, rfl, _, rfl, _, _, rfl, rfl, _, rfl, ?_⟩
  by_cases h0 : l ≤ n
  · rw [decide_eq_true h0]
    refine iteT ⟨_, rfl, _, _, rfl, rfl, ?_⟩
    simpa [h0] using q
  · rw [decide_eq_false h0]
    refine iteF ?_
    simpa [h0] using q
/-- of a list, of a tuple -/
def spIsSeq (K : PySem.W.Frag) : Sp := fun vs H Q _ => ∃ x : V, vs = [x] ∧ (TyX K H x (.type "list") ∨ TyX K H x (.type "tuple")) ∧ ∀ H', Same H H' → Q (.bl true) H'
theorem TyX.same {H H' : Hp} {x : V} {t : Value} (h : TyX K H x t) (s : Same H H') : TyX K H' x t := by
  cases h with
  | base b =>
    cases b with
    | lst e => exact .base (.lst (s _ _ e))
    | tup e => exact .base (.tup (s _ _ e))
    | frz e => exact .base (.frz (s _ _ e))
    | dK e => exact .base (.dK (s _ _ e))
    | dT e => exact .base (.dT (s _ _ e))
    | ins e cl ha hn htk hm => exact .base (.ins (s _ _ e) cl ha hn htk hm)
    | non => exact .base .non
    | bl b => exact .base (.bl b)
    | int i => exact .base (.int i)
    | str i => exact .base (.str i)
    | flt i => exact .base (.flt i)
  | set e => exact .set (s _ _ e)
  | kList a b => exact .kList a b
  | kTuple a b => exact .kTuple a b
  | kDict a b => exact .kDict a b
  | fTuple a => exact .fTuple (s _ _ a)
  | fDict a => exact .fDict (s _ _ a)
  | byt b => exact .byt b
theorem ok_is_sequence {f : Addr} {fd : FuncData} (F : Fun K "is_sequence" "is_sequence" s_is_sequence f fd) (T : Tx mg) : FnOk P w K mg base CX0 1 f fd ["value"] (spIsSeq K) := by
  refine F.ok c_is_sequence (fun vs H Q E h => ?_) (fun cdv A outer s H vs Q E hr h => ?_)
  · obtain ⟨n, rfl, _⟩ := h
    rfl
  obtain ⟨x, rfl, ty, q⟩ := h
  refine ⟨_, pss_one (ps_ret (pe_callB call_isiT (by rfl) T.n_isinstance (by decide +kernel) (pa_cons (pv 0) (pa_cons (pe_tup (pa_cons (pe_ty (n := "list") rfl T.n_list (by decide +kernel)) (pa_cons (pe_ty (n := "tuple") rfl T.n_tuple (by decide +kernel)) (pa_nil)))) (pa_nil))))), ?_⟩
  refine ⟨_, rfl, by show 2 ≤ sizeLine; decide, fun p hp => ?_⟩
  have sm : Same H (upd H p (.tup [.ty "list", .ty "tuple"])) := Same.upd hp
  rcases ty with ty | ty
  · exact ⟨x, p, _, .type "list", [.type "list", .type "tuple"], true, rfl, upd_same, .cons (.ty "list") (.cons (.ty "tuple") .nil), TyX.same ty sm, k_list_lt, q _ sm⟩
  · exact ⟨x, p, _, .type "tuple", [.type "list", .type "tuple"], true, rfl, upd_same, .cons (.ty "list") (.cons (.ty "tuple") .nil), TyX.same ty sm, k_tuple_lt, q _ sm⟩
end
end Ow

/-! ## M0 -/
set_option Elab.async false
set_option linter.all false
/-! The mathematics of the showing -/
namespace Ow
/-- what a counter of that turn and rest shows of m deeds -/
def shAs (t s m : Nat) : Nat := if t = 0 ∨ m < s then m else s + (m - s) % t
theorem shAs_zero (t s : Nat) : shAs t s 0 = 0 := by
  unfold shAs
  split
  · rfl
  · rename_i h
    have hs : s = 0 := by omega
    subst hs
    simp
/-- the showing behind one more deed -/
def nextSh (rs ss sh : List Nat) (d : Nat) : List Nat := sh.set d (shAs (rs.getD d 0) (ss.getD d 0) (sh.getD d 0 + 1))
theorem nextSh_len (rs ss sh : List Nat) (d : Nat) : (nextSh rs ss sh d).length = sh.length := by unfold nextSh; simp
end Ow

/-! ## M1 -/
set_option Elab.async false
set_option linter.all false
/-! The mathematics of the states that are reached -/
namespace Ow
theorem nodup_le {α : Type} [DecidableEq α] : ∀ (a b : List α), a.Nodup → (∀ x ∈ a, x ∈ b) → a.length ≤ b.length
  | [], _, _, _ => Nat.zero_le _
  | x :: a, b, nd, h => by
    have hx : x ∈ b := h x (List.mem_cons_self ..)
    have nd' := List.nodup_cons.mp nd
    have ih := nodup_le a (b.erase x) nd'.2 fun y hy => (List.mem_erase_of_ne (fun e => nd'.1 (by rw [← e]; exact hy))).mpr (h y (List.mem_cons_of_mem _ hy))
    have hl := List.length_erase_of_mem hx
    have : 0 < b.length := List.length_pos_of_mem hx
    simp only [List.length_cons]
    omega
theorem nodup_lt {l : List Nat} {n : Nat} (nd : l.Nodup) (h : ∀ s ∈ l, s < n) : l.length ≤ n := by
  have := nodup_le l (List.range n) nd fun x hx => List.mem_range.mpr (h x hx)
  simpa using this
/-- states that hold the first one and that no deed leaves -/
structure Clo (ts : List (List Nat)) (first n : Nat) (sts : List Nat) : Prop where
  nd : sts.Nodup
  lt : ∀ s ∈ sts, s < n
  fst : first ∈ sts
  cl : ∀ row ∈ ts, ∀ s ∈ sts, row.getD s 0 ∈ sts
/-- the search's state, between two turns of its outer loop -/
structure RI (ts : List (List Nat)) (first n : Nat) (fk wt : List Nat) : Prop where
  nd : fk.Nodup
  lt : ∀ s ∈ fk, s < n
  fst : first ∈ fk
  sub : ∀ s ∈ wt, s ∈ fk
  cl : ∀ s ∈ fk, s ∉ wt → ∀ row ∈ ts, row.getD s 0 ∈ fk
/-- .. within a turn: i rows are looked at -/
structure RF (ts : List (List Nat)) (first n : Nat) (fk wt : List Nat) (here i M : Nat) : Prop where
  nd : fk.Nodup
  lt : ∀ s ∈ fk, s < n
  fst : first ∈ fk
  sub : ∀ s ∈ wt, s ∈ fk
  hr : here ∈ fk
  cl : ∀ s ∈ fk, s ∉ wt → s ≠ here → ∀ row ∈ ts, row.getD s 0 ∈ fk
  dn : ∀ (j : Nat) row, j < i → ts[j]? = some row → row.getD here 0 ∈ fk
  ms : wt.length + 2 * (n - fk.length) ≤ M
theorem RI.start {ts : List (List Nat)} {first n : Nat} (h : first < n) : RI ts first n [first] [first] :=
  ⟨by simp, fun s hs => by rw [List.mem_singleton.mp hs]; exact h, List.mem_singleton.mpr rfl, fun s hs => hs, fun s hs hn => absurd hs hn⟩
theorem RI.pop {ts : List (List Nat)} {first n : Nat} {fk wt : List Nat} {here : Nat} (R : RI ts first n fk wt) (h : wt[wt.length - 1]? = some here) (h0 : wt ≠ []) : RF ts first n fk wt.dropLast here 0 (wt.length - 1 + 2 * (n - fk.length)) := by
  have hm : here ∈ wt := List.mem_of_getElem? h
  have e : wt = wt.dropLast ++ [here] := by
    have h1 := List.dropLast_concat_getLast h0
    have h2 : wt.getLast h0 = here := by
      rw [List.getLast_eq_getElem]
      obtain ⟨hl, he⟩ := List.getElem?_eq_some_iff.mp h
      exact he
    rw [h2] at h1
    exact h1.symm
  refine ⟨R.nd, R.lt, R.fst, fun s hs => R.sub s (List.dropLast_subset _ hs), R.sub _ hm, fun s hs hn ne row hr => R.cl s hs (fun z => ?_) row hr, fun j row hj => absurd hj (Nat.not_lt_zero j), ?_⟩
  · rw [e] at z
    rcases List.mem_append.mp z with z | z
    · exact hn z
    · exact ne (List.mem_singleton.mp z)
  · rw [List.length_dropLast]
    exact Nat.le_refl _
theorem RF.old {ts : List (List Nat)} {first n : Nat} {fk wt : List Nat} {here i M : Nat} {row : List Nat} (R : RF ts first n fk wt here i M) (h : ts[i]? = some row) (ht : row.getD here 0 ∈ fk) : RF ts first n fk wt here (i + 1) M :=
  ⟨R.nd, R.lt, R.fst, R.sub, R.hr, R.cl, fun j row' hj h' => by
    rcases Nat.lt_or_ge j i with z | z
    · exact R.dn j row' z h'
    · have e : j = i := by omega
      rw [e, h] at h'
      rw [← Option.some.inj h']
      exact ht, R.ms⟩
theorem RF.new {ts : List (List Nat)} {first n : Nat} {fk wt : List Nat} {here i M : Nat} {row : List Nat} (R : RF ts first n fk wt here i M) (h : ts[i]? = some row) (ht : row.getD here 0 ∉ fk) (hl : row.getD here 0 < n) :
    RF ts first n (fk ++ [row.getD here 0]) (wt ++ [row.getD here 0]) here (i + 1) M := by
  have nd : (fk ++ [row.getD here 0]).Nodup := List.nodup_append.mpr ⟨R.nd, by simp, fun a ha b hb e => by rw [List.mem_singleton.mp hb] at e; exact ht (e ▸ ha)⟩
  have lt : ∀ s ∈ fk ++ [row.getD here 0], s < n := fun s hs => by
    rcases List.mem_append.mp hs with z | z
    · exact R.lt s z
    · rw [List.mem_singleton.mp z]; exact hl
  have hlen := nodup_lt nd lt
  refine ⟨nd, lt, List.mem_append_left _ R.fst, fun s hs => ?_, List.mem_append_left _ R.hr, fun s hs hn ne row' hr => ?_, fun j row' hj h' => ?_, ?_⟩
  · rcases List.mem_append.mp hs with z | z
    · exact List.mem_append_left _ (R.sub s z)
    · exact List.mem_append_right _ z
  · rcases List.mem_append.mp hs with z | z
    · exact List.mem_append_left _ (R.cl s z (fun y => hn (List.mem_append_left _ y)) ne row' hr)
    · exact absurd (List.mem_append_right _ z) hn
  · rcases Nat.lt_or_ge j i with z | z
    · exact List.mem_append_left _ (R.dn j row' z h')
    · have e : j = i := by omega
      rw [e, h] at h'
      rw [← Option.some.inj h']
      exact List.mem_append_right _ (List.mem_singleton.mpr rfl)
  · have := R.ms
    simp only [List.length_append, List.length_singleton] at hlen ⊢
    omega
theorem RF.end' {ts : List (List Nat)} {first n : Nat} {fk wt : List Nat} {here M : Nat} (R : RF ts first n fk wt here ts.length M) : RI ts first n fk wt :=
  ⟨R.nd, R.lt, R.fst, R.sub, fun s hs hn row hr => by
    by_cases e : s = here
    · obtain ⟨j, hj⟩ := List.mem_iff_getElem?.mp hr
      rw [e]
      exact R.dn j row (List.getElem?_eq_some_iff.mp hj).1 hj
    · exact R.cl s hs hn e row hr⟩
theorem RI.clo {ts : List (List Nat)} {first n : Nat} {fk : List Nat} (R : RI ts first n fk []) : Clo ts first n fk := ⟨R.nd, R.lt, R.fst, fun row hr s hs => R.cl s hs (List.not_mem_nil) row hr⟩
theorem Clo.perm {ts : List (List Nat)} {first n : Nat} {fk fk' : List Nat} (R : Clo ts first n fk) (p : fk'.Perm fk) : Clo ts first n fk' :=
  ⟨p.nodup_iff.mpr R.nd, fun s hs => R.lt s (p.mem_iff.mp hs), p.mem_iff.mpr R.fst, fun row hr s hs => p.mem_iff.mpr (R.cl row hr s (p.mem_iff.mp hs))⟩
end Ow

/-! ## M2 -/
set_option Elab.async false
set_option linter.all false
/-! The mathematics of the search -/
namespace Ow
abbrev Pl := List Nat × Nat
section
variable (rs ss : List Nat) (ts : List (List Nat)) (lim : Option (List Nat))
def inLim (sh : List Nat) : Bool := match lim with
  | none => true
  | some l => (List.range rs.length).all fun k => decide (0 < rs.getD k 0) || decide (sh.getD k 0 ≤ l.getD k 0)
def succP (p : Pl) (d : Nat) : Pl := (nextSh rs ss p.1 d, (ts.getD d []).getD p.2 0)
inductive Reach (start : Nat) : Pl → Prop
  | start : Reach start (List.replicate rs.length 0, start)
  | step {p : Pl} (d : Nat) : Reach start p → d < ts.length → inLim rs lim (succP rs ss ts p d).1 = true → Reach start (succP rs ss ts p d)
end
variable {rs ss : List Nat} {ts : List (List Nat)} {lim : Option (List Nat)} {start : Nat}
theorem Reach.len {p : Pl} (h : Reach rs ss ts lim start p) : p.1.length = rs.length := by
  induction h with
  | start => simp
  | step d _ _ _ ih => rw [show (succP rs ss ts _ d).1 = nextSh rs ss _ d from rfl, nextSh_len, ih]
theorem Reach.inSts {n : Nat} {sts : List Nat} {p : Pl} (h : Reach rs ss ts lim start p) (c : Clo ts start n sts) : p.2 ∈ sts := by
  induction h with
  | start => exact c.fst
  | @step p d _ hd _ ih =>
    have e : ts.getD d [] = ts[d] := by rw [List.getD_eq_getElem?_getD, List.getElem?_eq_getElem hd]; rfl
    show (ts.getD d []).getD p.2 0 ∈ sts
    rw [e]
    exact c.cl _ (List.getElem_mem hd) _ ih
/-- one more, if it is new -/
def addP (l : List Pl) (p : Pl) : List Pl := if p ∈ l then l else l ++ [p]
def stepP (rs ss : List Nat) (ts : List (List Nat)) (lim : Option (List Nat)) (q : Pl) (l : List Pl) (d : Nat) : List Pl := if inLim rs lim (succP rs ss ts q d).1 = true then addP l (succP rs ss ts q d) else l
/-- behind i deeds of the place q -/
def foldP (rs ss : List Nat) (ts : List (List Nat)) (lim : Option (List Nat)) (q : Pl) (l : List Pl) : Nat → List Pl
  | 0 => l
  | i + 1 => stepP rs ss ts lim q (foldP rs ss ts lim q l i) i
theorem mem_addP {l : List Pl} {p x : Pl} : x ∈ addP l p ↔ x ∈ l ∨ x = p := by
  unfold addP
  by_cases h : p ∈ l
  · rw [if_pos h]
    exact ⟨.inl, fun z => z.elim id fun e => e ▸ h⟩
  · rw [if_neg h, List.mem_append, List.mem_singleton]
theorem nodup_addP {l : List Pl} {p : Pl} (h : l.Nodup) : (addP l p).Nodup := by
  unfold addP
  by_cases hp : p ∈ l
  · rw [if_pos hp]; exact h
  · rw [if_neg hp]
    refine List.nodup_append.mpr ⟨h, by simp, fun a ha b hb e => ?_⟩
    rw [List.mem_singleton.mp hb] at e
    exact hp (e ▸ ha)
/-- the search's state: the places found, in turn; so many of them looked at -/
structure SI (rs ss : List Nat) (ts : List (List Nat)) (lim : Option (List Nat)) (start : Nat) (l : List Pl) (dn : Nat) : Prop where
  nd : l.Nodup
  re : ∀ p ∈ l, Reach rs ss ts lim start p
  fst : (List.replicate rs.length 0, start) ∈ l
  cl : ∀ (j : Nat) p d, j < dn → l[j]? = some p → d < ts.length → inLim rs lim (succP rs ss ts p d).1 = true → succP rs ss ts p d ∈ l
  le : dn ≤ l.length
theorem SI.first : SI rs ss ts lim start [(List.replicate rs.length 0, start)] 0 :=
  ⟨by simp, fun p hp => by rw [List.mem_singleton.mp hp]; exact .start, List.mem_singleton.mpr rfl, fun j p d hj => absurd hj (Nat.not_lt_zero j), Nat.zero_le _⟩
structure SF (rs ss : List Nat) (ts : List (List Nat)) (lim : Option (List Nat)) (start : Nat) (l0 : List Pl) (dn : Nat) (q : Pl) (l : List Pl) (i : Nat) : Prop where
  nd : l.Nodup
  re : ∀ p ∈ l, Reach rs ss ts lim start p
  pre : ∃ more, l = l0 ++ more
  dn : ∀ d, d < i → inLim rs lim (succP rs ss ts q d).1 = true → succP rs ss ts q d ∈ l
theorem addP_pre (l : List Pl) (p : Pl) : ∃ more, addP l p = l ++ more := by
  unfold addP
  by_cases h : p ∈ l
  · exact ⟨[], by rw [if_pos h, List.append_nil]⟩
  · exact ⟨[p], by rw [if_neg h]⟩
theorem SF.next {l0 l : List Pl} {dn i : Nat} {q : Pl} (F : SF rs ss ts lim start l0 dn q l i) (hq : Reach rs ss ts lim start q) (hi : i < ts.length) : SF rs ss ts lim start l0 dn q (stepP rs ss ts lim q l i) (i + 1) := by
  unfold stepP
  by_cases h : inLim rs lim (succP rs ss ts q i).1 = true
  · rw [if_pos h]
    obtain ⟨m1, e1⟩ := F.pre
    obtain ⟨m2, e2⟩ := addP_pre l (succP rs ss ts q i)
    refine ⟨nodup_addP F.nd, fun p hp => ?_, ⟨m1 ++ m2, by rw [e2, e1, List.append_assoc]⟩, fun d hd hl => ?_⟩
    · rcases mem_addP.mp hp with z | z
      · exact F.re p z
      · rw [z]; exact .step i hq hi h
    · rcases Nat.lt_or_ge d i with z | z
      · exact mem_addP.mpr (.inl (F.dn d z hl))
      · have e : d = i := by omega
        rw [e]
        exact mem_addP.mpr (.inr rfl)
  · rw [if_neg h]
    refine ⟨F.nd, F.re, F.pre, fun d hd hl => ?_⟩
    rcases Nat.lt_or_ge d i with z | z
    · exact F.dn d z hl
    · have e : d = i := by omega
      rw [e] at hl
      exact absurd hl h
theorem SI.begin {l : List Pl} {dn : Nat} {q : Pl} (S : SI rs ss ts lim start l dn) : SF rs ss ts lim start l dn q l 0 := ⟨S.nd, S.re, ⟨[], by simp⟩, fun d hd => absurd hd (Nat.not_lt_zero d)⟩
theorem SF.done {l0 l : List Pl} {dn : Nat} {q : Pl} (F : SF rs ss ts lim start l0 dn q l ts.length) (S : SI rs ss ts lim start l0 dn) (hq : l0[dn]? = some q) : SI rs ss ts lim start l (dn + 1) := by
  obtain ⟨more, e⟩ := F.pre
  have hlt := (List.getElem?_eq_some_iff.mp hq).1
  refine ⟨F.nd, F.re, by rw [e]; exact List.mem_append_left _ S.fst, fun j p d hj hp hd hl => ?_, by rw [e, List.length_append]; omega⟩
  have hj0 : j < l0.length := by omega
  rw [e, List.getElem?_append_left hj0] at hp
  rcases Nat.lt_or_ge j dn with z | z
  · rw [e]
    exact List.mem_append_left _ (S.cl j p d z hp hd hl)
  · have ej : j = dn := by omega
    rw [ej, hq] at hp
    rw [← Option.some.inj hp] at hl ⊢
    exact F.dn d hd hl
theorem foldP_succ (q : Pl) (l : List Pl) (i : Nat) : foldP rs ss ts lim q l (i + 1) = stepP rs ss ts lim q (foldP rs ss ts lim q l i) i := rfl
theorem SF.fold {l0 : List Pl} {dn : Nat} {q : Pl} (S : SI rs ss ts lim start l0 dn) (hq : Reach rs ss ts lim start q) : ∀ i, i ≤ ts.length → SF rs ss ts lim start l0 dn q (foldP rs ss ts lim q l0 i) i
  | 0, _ => S.begin
  | i + 1, h => (SF.fold S hq i (by omega)).next hq (by omega)
/-- all is found -/
theorem SI.all {l : List Pl} (S : SI rs ss ts lim start l l.length) {p : Pl} (h : Reach rs ss ts lim start p) : p ∈ l := by
  induction h with
  | start => exact S.fst
  | @step p d _ hd hl ih =>
    obtain ⟨j, hj⟩ := List.mem_iff_getElem?.mp ih
    exact S.cl j p d (List.getElem?_eq_some_iff.mp hj).1 hj hd hl
/-- the states of one showing, in turn -/
def stOf (l : List Pl) (sh : List Nat) : List Nat := (l.filter fun p => decide (p.1 = sh)).map (·.2)
theorem stOf_app (l : List Pl) (p : Pl) (sh : List Nat) : stOf (l ++ [p]) sh = if p.1 = sh then stOf l sh ++ [p.2] else stOf l sh := by
  unfold stOf
  rw [List.filter_append]
  by_cases h : p.1 = sh <;> simp [h]
theorem mem_stOf {l : List Pl} {sh : List Nat} {s : Nat} : s ∈ stOf l sh ↔ (sh, s) ∈ l := by
  unfold stOf
  constructor
  · intro h
    obtain ⟨p, hp, rfl⟩ := List.mem_map.mp h
    obtain ⟨h1, h2⟩ := List.mem_filter.mp hp
    have e : p.1 = sh := of_decide_eq_true h2
    rw [← e]
    exact h1
  · intro h
    exact List.mem_map.mpr ⟨(sh, s), List.mem_filter.mpr ⟨h, decide_eq_true rfl⟩, rfl⟩
theorem stOf_nil {l : List Pl} {sh : List Nat} (h : ∀ p ∈ l, p.1 ≠ sh) : stOf l sh = [] := by
  unfold stOf
  rw [List.map_eq_nil_iff, List.filter_eq_nil_iff]
  intro p hp
  simp [h p hp]
theorem nodup_stOf {l : List Pl} (h : l.Nodup) (sh : List Nat) : (stOf l sh).Nodup := by
  unfold stOf
  have h1 := h.filter (fun p => decide (p.1 = sh))
  unfold List.Nodup
  rw [List.pairwise_map]
  refine h1.imp_of_mem fun ha hb hne e => ?_
  rename_i a b
  have ea : a.1 = sh := of_decide_eq_true (List.mem_filter.mp ha).2
  have eb : b.1 = sh := of_decide_eq_true (List.mem_filter.mp hb).2
  exact hne (Prod.ext (ea.trans eb.symm) e)
end Ow
namespace Ow
theorem addP_len (l : List Pl) (p : Pl) : (addP l p).length ≤ l.length + 1 := by
  unfold addP
  split
  · omega
  · simp
theorem foldP_len (rs ss : List Nat) (ts : List (List Nat)) (lim : Option (List Nat)) (q : Pl) (l : List Pl) : ∀ i, (foldP rs ss ts lim q l i).length ≤ l.length + i
  | 0 => Nat.le_refl _
  | i + 1 => by
    have ih := foldP_len rs ss ts lim q l i
    rw [foldP_succ]
    unfold stepP
    split
    · have := addP_len (foldP rs ss ts lim q l i) (succP rs ss ts q i)
      omega
    · omega
end Ow

/-! ## W2 -/
set_option Elab.async false
set_option linter.all false
set_option maxRecDepth 100000
set_option maxHeartbeats 4000000
/-! Counters -/
namespace Ow
open PySem PySem.Spec PyProof.Rows L2
abbrev s_check_rounds : Stmt := topS 19
theorem c_check_rounds : FnScope ["value", "number"] ["value"] (defScope s_check_rounds) := ⟨rfl, rfl, rfl, by decide +kernel, rfl, by decide +kernel, by decide +kernel⟩
abbrev s_check_rests : Stmt := topS 20
theorem c_check_rests : FnScope ["value", "many", "number"] ["value", "many"] (defScope s_check_rests) := ⟨rfl, rfl, rfl, by decide +kernel, rfl, by decide +kernel, by decide +kernel⟩
abbrev s_Counters : Stmt := inClass (topS 21) 0
theorem c_Counters : FnScope ["self", "rounds", "rests"] ["self", "rounds", "rests"] (defScope s_Counters) := ⟨rfl, rfl, rfl, by decide +kernel, rfl, by decide +kernel, by decide +kernel⟩
abbrev s_need_fit : Stmt := topS 22
theorem c_need_fit : FnScope ["machine", "counters"] ["machine", "counters"] (defScope s_need_fit) := ⟨rfl, rfl, rfl, by decide +kernel, rfl, by decide +kernel, by decide +kernel⟩
abbrev s_is_finite : Stmt := topS 23
theorem c_is_finite : FnScope ["counters"] ["counters"] (defScope s_is_finite) := ⟨rfl, rfl, rfl, by decide +kernel, rfl, by decide +kernel, by decide +kernel⟩
abbrev s_shown_as : Stmt := topS 24
theorem c_shown_as : FnScope ["counters", "kind", "many", "turn", "rest"] ["counters", "kind", "many"] (defScope s_shown_as) := ⟨rfl, rfl, rfl, by decide +kernel, rfl, by decide +kernel, by decide +kernel⟩
abbrev s_shown_of : Stmt := topS 25
theorem c_shown_of : FnScope ["counters", "row", "numbers", "deed", "kind", "many"] ["counters", "row"] (defScope s_shown_of) := ⟨rfl, rfl, rfl, by decide +kernel, rfl, by decide +kernel, by decide +kernel⟩
abbrev s_is_shown : Stmt := topS 26
theorem c_is_shown : FnScope ["counters", "kind", "value", "turn"] ["counters", "kind", "value"] (defScope s_is_shown) := ⟨rfl, rfl, rfl, by decide +kernel, rfl, by decide +kernel, by decide +kernel⟩
abbrev s_check_showing : Stmt := topS 27
theorem c_check_showing : FnScope ["counters", "value", "kind", "number"] ["counters", "value"] (defScope s_check_showing) := ⟨rfl, rfl, rfl, by decide +kernel, rfl, by decide +kernel, by decide +kernel⟩
abbrev s_shown_next : Stmt := topS 28
theorem c_shown_next : FnScope ["counters", "showing", "deed"] ["counters", "showing", "deed"] (defScope s_shown_next) := ⟨rfl, rfl, rfl, by decide +kernel, rfl, by decide +kernel, by decide +kernel⟩

/-- what the classes say -/
structure Kl (K : PySem.W.Frag) (cC cM cT : Addr) : Prop where
  co : Cls K cC
  co1 : NoAttr K cC "rounds"
  co2 : NoAttr K cC "rests"
  ma : Cls K cM
  ma1 : NoAttr K cM "tables"
  ma2 : NoAttr K cM "deeds"
  ma3 : NoAttr K cM "states"
  tr : Cls K cT
  tr1 : NoAttr K cT "moves"
  tr2 : NoAttr K cT "counters"
  tr3 : NoAttr K cT "limit"
  tr4 : NoAttr K cT "most"
  tr5 : NoAttr K cT "rows"
  tr6 : NoAttr K cT "waiting"
  tr7 : NoAttr K cT "done"
/-- counters of these rounds and rests -/
def CoAt (cC : Addr) (H : Hp) (x : Addr) (rs ss : List Nat) : Prop := ∃ dx a b, H x = some (.ins cC dx [("rounds", .ref a), ("rests", .ref b)]) ∧ TN H a rs ∧ TN H b ss
theorem CoAt.same {cC : Addr} {H H' : Hp} {x : Addr} {rs ss : List Nat} (h : CoAt cC H x rs ss) (s : Same H H') : CoAt cC H' x rs ss := by
  obtain ⟨dx, a, b, h1, h2, h3⟩ := h
  exact ⟨dx, a, b, s _ _ h1, h2.same s, h3.same s⟩
/-- a list or a tuple of numbers -/
def SqN (H : Hp) (a : Addr) (l : List Nat) : Prop := LN H a l ∨ TN H a l
theorem all_rep {ys : List V} {n : Nat} {c : V} (hl : ys.length = n) (h : ∀ (j : Nat) y, ys[j]? = some y → y = c) : ys = List.replicate n c := List.eq_replicate_iff.mpr ⟨hl, fun b hb => by
  obtain ⟨j, hj⟩ := List.mem_iff_getElem?.mp hb
  exact h j b hj⟩
theorem all_true {n : Nat} : (List.replicate n true).all id = true := by simp
section
variable {P : Program} {w : World} {K : PySem.W.Frag} {mg : Str → Option Value} {base : Heap}
def spRounds : Sp := fun vs H Q _ => ∃ (a : Addr) (rs : List Nat), vs = [.ref a] ∧ LN H a rs ∧ 1 ≤ rs.length ∧ rs.length ≤ 4 ∧ (∀ r ∈ rs, r ≤ 60) ∧ ∀ H' p, Same H H' → TN H' p rs → Q (.ref p) H'
theorem ok_check_rounds {f : Addr} {fd : FuncData} (F : Fun K "check_rounds" "check_rounds" s_check_rounds f fd) (T : Tx mg) (C_is_sequence : Cl P w K mg base CX0 1 "is_sequence" ["value"] (spIsSeq K) [])
    (C_is_within : Cl P w K mg base CX0 2 "is_within" ["value", "least", "most"] spIsWithin []) : FnOk P w K mg base CX0 3 f fd ["value"] spRounds := by
  refine F.ok c_check_rounds (fun vs H Q E h => ?_) (fun cdv A outer s H vs Q E hr h => ?_)
  · obtain ⟨a, rs, rfl, _⟩ := h
    rfl
  obtain ⟨a, rs, rfl, hL, h1, h4, h60, q⟩ := h
  refine ⟨_, pss_cons (ps_if (PW.pt (pw_or (pt_not (pt_val (pe_cl C_is_sequence (hr.mono (by decide)) pass0 rfl (pa_cons (pv 0) (pa_nil))))) (pw_or1 (pt_not (pt_chain op_le op_le (pe_int) (pe_callB (id := "len") (r := rLenOf K) call_len_seq (by rfl) T.n_len (by decide +kernel) (pa_cons (pv 0) (pa_nil))) (pe_const rfl T.k_MOST_DEEDS)))))) (pss_one (ps_never))
    (pss_nil))
  (pss_cons (ps_if (pt_not (pt_val (pe_callB (id := "all") (r := rAll K) (cr_all rfl) (by rfl) T.n_all (by decide +kernel) (pa_cons (pe_lc (own := [("number", 1)]) (g := gName 1) (tt := tYes) rfl c_check_rounds.nd (pi_listK K (pv 0)) (blkOk_by (by kernel_rfl)) (fun _ _ _ _ _ => pg_name (i := 1) c_check_rounds.nd rfl (by first | exact Or.inl rfl | exact Or.inr rfl)) (fun _ _ _ _ _ => pts_nil) (fun _ _ _ _ _ => pe_cl C_is_within (hr.mono (by decide)) pass0 rfl (pa_cons (pv 1) (pa_cons (pe_int) (pa_cons (pe_const rfl T.k_MOST_ROUND) (pa_nil)))))) (pa_nil))))) (pss_one (ps_never))
    (pss_nil))
  (pss_one (ps_ret (pe_callTy (T := "tuple") (r := rTupOf K) call_tuple_of (by rfl) T.n_tuple (by decide +kernel) (pa_cons (pv 0) (pa_nil)))))), ?_⟩
  refine ⟨_, rfl, .ref a, rfl, .inl (.base (.lst hL)), fun H1 s1 => ⟨true, rfl, iteF ?_⟩⟩
  have hL1 := hL.same s1
  refine ⟨_, rfl, _, _, rfl, .inl (LN.sq hL1), _, _, rfl, rfl, _, rfl, iteDT ?_ ⟨_, _, rfl, rfl, _, rfl, iteNT ?_ ?_⟩⟩
  · rw [nVs_len]; omega
  · rw [nVs_len]; omega
  refine ⟨_, rfl, a, rfl, ⟨_, LN.sq hL1⟩, fun D hD => lcE_list (E := E0') (J := fun _ => True) (R := fun _ y _ => y = .bl true) hD (fun z => z) ?_ trivial (fun _ _ _ => trivial) (fun H2 s2 _ => LN.sq (hL1.same s2.same)) (fun _ _ _ _ _ _ e _ => e) ?_ ?_⟩
  · rw [nVs_len]; exact small8 (by omega)
  · intro i x H2 k hx s2 _ _ kk
    obtain ⟨n, hn, rfl⟩ := nVs_back hx
    have h6 := h60 n (List.mem_of_getElem? hn)
    refine ⟨rfl, _, rfl, _, _, _, rfl, ?_⟩
    refine kk _ _ .refl trivial ?_
    rw [decide_eq_true (by omega)]
  · intro H2 ys s2 _ hy ly ry
    rw [nVs_len] at ly
    have ey : ys = (List.replicate rs.length true).map V.bl := by
      rw [all_rep ly ry, List.map_replicate]
    refine ⟨_, _, rfl, SqL.of (by rw [hy, ey]), ?_⟩
    rw [all_true]
    refine ⟨true, rfl, iteF ⟨_, rfl, _, _, rfl, .inl ⟨LN.sq (hL1.same s2.same), fun l hl => ?_⟩⟩⟩
    exact q _ _ ((s1.trans s2.same).trans (Same.upd hl)) upd_same
/-- the default of rests: () of the written part -/
def EmptyT (K : PySem.W.Frag) (T : Addr) : Prop := ∃ o n, K.lookup T = some o ∧ o.cls = .type "tuple" ∧ o.dict = none ∧ o.data = .seq #[] n
def RestsOf (K : PySem.W.Frag) (H : Hp) (b : Addr) (ss : List Nat) (many : Nat) : Prop := (LN H b ss ∧ ss.length = many) ∨ (EmptyT K b ∧ ss = List.replicate many 0)
def spRests (K : PySem.W.Frag) : Sp := fun vs H Q _ => ∃ (b : Addr) (ss : List Nat) (many : Nat), vs = [.ref b, nV many] ∧ RestsOf K H b ss many ∧ 1 ≤ many ∧ many ≤ 4 ∧ (∀ r ∈ ss, r ≤ 6) ∧ ∀ H' p, Same H H' → TN H' p ss → Q (.ref p) H'
theorem ok_check_rests {f : Addr} {fd : FuncData} (F : Fun K "check_rests" "check_rests" s_check_rests f fd) (T : Tx mg) (C_is_sequence : Cl P w K mg base CX0 1 "is_sequence" ["value"] (spIsSeq K) [])
    (C_is_within : Cl P w K mg base CX0 2 "is_within" ["value", "least", "most"] spIsWithin []) : FnOk P w K mg base CX0 3 f fd ["value", "many"] (spRests K) := by
  refine F.ok c_check_rests (fun vs H Q E h => ?_) (fun cdv A outer s H vs Q E hr h => ?_)
  · obtain ⟨a, rs, m, rfl, _⟩ := h
    rfl
  obtain ⟨a, ss, many, rfl, hL, h1, h4, h6, q⟩ := h
  rcases hL with ⟨hL, hl⟩ | ⟨hT, rfl⟩
  · refine ⟨_, pss_cons (ps_if (PW.pt (pw_or (pt_not (pt_val (pe_cl C_is_sequence (hr.mono (by decide)) pass0 rfl (pa_cons (pv 0) (pa_nil))))) (pw_or1 (pt_cmpR op_notIn_seq (pe_callB (id := "len") (r := rLenOf K) call_len_seq (by rfl) T.n_len (by decide +kernel) (pa_cons (pv 0) (pa_nil))) (pe_tup (pa_cons (pe_int) (pa_cons (pv 1) (pa_nil)))) (by with_unfolding_all rfl))))) (pss_one (ps_never))
    (pss_nil))
  (pss_cons (ps_if (pt_not (pt_val (pe_callB (id := "all") (r := rAll K) (cr_all rfl) (by rfl) T.n_all (by decide +kernel) (pa_cons (pe_lc (own := [("number", 2)]) (g := gName 2) (tt := tYes) rfl c_check_rests.nd (pi_listK K (pv 0)) (blkOk_by (by kernel_rfl)) (fun _ _ _ _ _ => pg_name (i := 2) c_check_rests.nd rfl (by first | exact Or.inl rfl | exact Or.inr rfl)) (fun _ _ _ _ _ => pts_nil) (fun _ _ _ _ _ => pe_cl C_is_within (hr.mono (by decide)) pass0 rfl (pa_cons (pv 2) (pa_cons (pe_int) (pa_cons (pe_const rfl T.k_MOST_REST) (pa_nil)))))) (pa_nil))))) (pss_one (ps_never))
    (pss_nil))
  (pss_one (ps_ret (pe_ifExp (pt_cmpR op_gt (pe_callB (id := "len") (r := rLenOf K) call_len_seq (by rfl) T.n_len (by decide +kernel) (pa_cons (pv 0) (pa_nil))) (pe_int) (nomark _)) (pe_callTy (T := "tuple") (r := rTupOf K) call_tuple_of (by rfl) T.n_tuple (by decide +kernel) (pa_cons (pv 0) (pa_nil))) (pe_op op_repA (pe_tup (pa_cons (pe_int) (pa_nil))) (pv 1)))))), ?_⟩
    refine ⟨_, rfl, .ref a, rfl, .inl (.base (.lst hL)), fun H1 s1 => ⟨true, rfl, iteF ?_⟩⟩
    have hL1 := hL.same s1
    refine ⟨_, rfl, _, _, rfl, .inl (LN.sq hL1), _, rfl, by show 2 ≤ sizeLine; decide, fun p hp => ?_⟩
    have hin : inV (V.int (nVs ss).length) [.int 0, nV many] = true := by
      rw [nVs_len, hl]
      simp [inV, eqV]
    refine ⟨p, _, rfl, .inr (SqT.of upd_same), rfl, rfl, _, rfl, iteFb (by show (!inV _ _) = false; rw [hin]; rfl) ?_⟩
    have s2 : Same H1 (upd H1 p (.tup [.int 0, nV many])) := Same.upd hp
    have hL2 := hL1.same s2
    refine ⟨_, rfl, a, rfl, ⟨_, LN.sq hL2⟩, fun D hD => lcE_list (E := E0') (J := fun _ => True) (R := fun _ y _ => y = .bl true) hD (fun z => z) ?_ trivial (fun _ _ _ => trivial) (fun H2 s2 _ => LN.sq (hL2.same s2.same)) (fun _ _ _ _ _ _ e _ => e) ?_ ?_⟩
    · rw [nVs_len]; exact small8 (by omega)
    · intro i x H2 k hx s2 _ _ kk
      obtain ⟨n, hn, rfl⟩ := nVs_back hx
      have h6 := h6 n (List.mem_of_getElem? hn)
      refine ⟨rfl, _, rfl, _, _, _, rfl, ?_⟩
      refine kk _ _ .refl trivial ?_
      rw [decide_eq_true (by omega)]
    · intro H2 ys s3 _ hy ly ry
      rw [nVs_len] at ly
      have ey : ys = (List.replicate ss.length true).map V.bl := by rw [all_rep ly ry, List.map_replicate]
      refine ⟨_, _, rfl, SqL.of (by rw [hy, ey]), ?_⟩
      rw [all_true]
      have hL3 := hL2.same s3.same
      refine ⟨true, rfl, iteF ⟨_, rfl, _, _, rfl, .inl (LN.sq hL3), _, _, rfl, rfl, _, rfl, iteDT ?_ ⟨_, rfl, _, _, rfl, .inl ⟨LN.sq hL3, fun l hl => ?_⟩⟩⟩⟩
      · rw [nVs_len]; omega
      · exact q _ _ (((s1.trans s2).trans s3.same).trans (Same.upd hl)) upd_same
  · obtain ⟨o, n, ho, hc, hdct, hdat⟩ := hT
    have hS : ∀ H', SqT K H' a [] := fun H' => .inr ⟨o, #[], n, ho, hc, hdat, Nat.zero_le _, .nil⟩
    refine ⟨_, pss_cons (ps_if (PW.pt (pw_or (pt_not (pt_val (pe_cl C_is_sequence (hr.mono (by decide)) pass0 rfl (pa_cons (pv 0) (pa_nil))))) (pw_or1 (pt_cmpR op_notIn_seq (pe_callB (id := "len") (r := rLenOf K) call_len_seq (by rfl) T.n_len (by decide +kernel) (pa_cons (pv 0) (pa_nil))) (pe_tup (pa_cons (pe_int) (pa_cons (pv 1) (pa_nil)))) (by with_unfolding_all rfl))))) (pss_one (ps_never))
    (pss_nil))
  (pss_cons (ps_if (pt_not (pt_val (pe_callB (id := "all") (r := rAll K) (cr_all rfl) (by rfl) T.n_all (by decide +kernel) (pa_cons (pe_lc (own := [("number", 2)]) (g := gName 2) (tt := tYes) rfl c_check_rests.nd (pi_tupK K (pv 0)) (blkOk_by (by kernel_rfl)) (fun _ _ _ _ _ => pg_name (i := 2) c_check_rests.nd rfl (by first | exact Or.inl rfl | exact Or.inr rfl)) (fun _ _ _ _ _ => pts_nil) (fun _ _ _ _ _ => pe_cl C_is_within (hr.mono (by decide)) pass0 rfl (pa_cons (pv 2) (pa_cons (pe_int) (pa_cons (pe_const rfl T.k_MOST_REST) (pa_nil)))))) (pa_nil))))) (pss_one (ps_never))
    (pss_nil))
  (pss_one (ps_ret (pe_ifExp (pt_cmpR op_gt (pe_callB (id := "len") (r := rLenOf K) call_len_seq (by rfl) T.n_len (by decide +kernel) (pa_cons (pv 0) (pa_nil))) (pe_int) (nomark _)) (pe_callTy (T := "tuple") (r := rTupOf K) call_tuple_of (by rfl) T.n_tuple (by decide +kernel) (pa_cons (pv 0) (pa_nil))) (pe_op op_repA (pe_tup (pa_cons (pe_int) (pa_nil))) (pv 1)))))), ?_⟩
    refine ⟨_, rfl, .ref a, rfl, .inr (.kTuple ho hc), fun H1 s1 => ⟨true, rfl, iteF ?_⟩⟩
    refine ⟨_, rfl, _, _, rfl, .inr (hS _), _, rfl, by show 2 ≤ sizeLine; decide, fun p hp => ?_⟩
    refine ⟨p, _, rfl, .inr (SqT.of upd_same), rfl, rfl, _, rfl, iteFb (by simp [inV, eqV]) ?_⟩
    have s2 : Same H1 (upd H1 p (.tup [.int 0, nV many])) := Same.upd hp
    refine ⟨_, rfl, a, rfl, ⟨_, hS _⟩, fun D hD => lcE_tup (xs := []) (E := E0') (J := fun _ => True) (R := fun _ y _ => y = .bl true) hD (fun z => z) (Nat.zero_le _) trivial (fun _ _ _ => trivial) (fun H2 s2 _ => hS _) (fun _ _ _ _ _ _ e _ => e) ?_ ?_⟩
    · intro i x H2 k hx
      simp at hx
    · intro H2 ys s3 _ hy ly ry
      have ey : ys = ([] : List Bool).map V.bl := List.eq_nil_of_length_eq_zero ly
      refine ⟨_, _, rfl, SqL.of (by rw [hy, ey]), ?_⟩
      refine ⟨true, rfl, iteF ⟨_, rfl, _, _, rfl, .inr (hS _), _, _, rfl, rfl, _, rfl, iteDF (by simp) ?_⟩⟩
      refine ⟨by show 1 ≤ sizeLine; decide, fun l hl => ⟨_, rfl, l, many, _, rfl, rfl, upd_same, by simp, h1, by omega, by simp, fun p' H' s' e' => ?_⟩⟩
      refine q _ _ ((((s1.trans s2).trans s3.same).trans (Same.upd hl)).trans s') ?_
      show H' p' = some (.tup (nVs (List.replicate many 0)))
      rw [e']
      simp
end
end Ow

/-! ## W3 -/
set_option Elab.async false
set_option linter.all false
set_option maxRecDepth 100000
set_option maxHeartbeats 4000000
/-! Counters: made; what they show -/
namespace Ow
open PySem PySem.Spec PyProof.Rows L2
section
variable {P : Program} {w : World} {K : PySem.W.Frag} {mg : Str → Option Value} {base : Heap} {cC cM cT : Addr}
theorem TN.x {H H' : Hp} {a x : Addr} {l : List Nat} (h : TN H a l) (s : SameX x H H') (hx : ∀ xs, H x ≠ some (.tup xs)) : TN H' a l := s _ _ (fun z => hx _ (by rw [← z]; exact h)) h
def spCo (K : PySem.W.Frag) (cC : Addr) : Sp := fun vs H Q _ => ∃ (x dx a b : Addr) (rs ss : List Nat), vs = [.ref x, .ref a, .ref b] ∧ H x = some (.ins cC dx []) ∧ LN H a rs ∧ 1 ≤ rs.length ∧ rs.length ≤ 4 ∧ (∀ r ∈ rs, r ≤ 60) ∧ RestsOf K H b ss rs.length ∧ (∀ s ∈ ss, s ≤ 6) ∧
  ∀ H', SameX x H H' → CoAt cC H' x rs ss → Q .non H'
theorem ok_Counters {f TT0 : Addr} {fd : FuncData} (F : FunD K "__init__" "Counters.__init__" (defArgs s_Counters) (defBody s_Counters) (defScope s_Counters) [.ref TT0] [] f fd) (T : Tx mg) (k : Kl K cC cM cT) (C_check_rounds : Cl P w K mg base CX0 3 "check_rounds" ["value"] spRounds [])
    (C_check_rests : Cl P w K mg base CX0 3 "check_rests" ["value", "many"] (spRests K) []) : FnOk P w K mg base CX0 4 f fd ["self", "rounds", "rests"] (spCo K cC) := by
  refine F.ok c_Counters (fun vs H Q E h => ?_) (fun cdv A outer s H vs Q E hr h => ?_)
  · obtain ⟨x, dx, a, b, rs, ss, rfl, _⟩ := h
    rfl
  obtain ⟨x, dx, a, b, rs, ss, rfl, hx, hL, h1, h4, h60, hR, h6, q⟩ := h
  refine ⟨_, PSs.nox (pss_cons (ps_fld (pv 0) (pe_cl C_check_rounds (hr.mono (by decide)) pass0 rfl (pa_cons (pv 1) (pa_nil))) rfl)
  (pss_one (ps_fld (pv 0) (pe_cl C_check_rests (hr.mono (by decide)) pass0 rfl (pa_cons (pv 2) (pa_cons (pe_callB (id := "len") (r := rLenOf K) call_len_seq (by rfl) T.n_len (by decide +kernel) (pa_cons (pe_fld (pv 0) rfl) (pa_nil))) (pa_nil)))) rfl))), ?_⟩
  refine ⟨_, rfl, a, rs, rfl, hL, h1, h4, h60, fun H1 p s1 e1 => ?_⟩
  have hx1 := s1 _ _ hx
  refine ⟨_, rfl, x, cC, dx, [], rfl, hx1, k.co, k.co1, by decide, ?_⟩
  have w2 : SameX x H1 (upd H1 x (.ins cC dx [("rounds", .ref p)])) := SmE.updE .refl rfl
  have e2 : TN (upd H1 x (.ins cC dx [("rounds", .ref p)])) p rs := e1.x w2 (fun xs z => by rw [hx1] at z; cases z)
  have hR2 : RestsOf K (upd H1 x (.ins cC dx [("rounds", .ref p)])) b ss rs.length := by
    rcases hR with ⟨z1, z2⟩ | z
    · exact .inl ⟨w2 _ _ (ne_of (z1.same s1) hx1 (fun z => by cases z)) (z1.same s1), z2⟩
    · exact .inr z
  refine ⟨_, rfl, _, rfl, _, _, _, _, _, rfl, upd_same, k.co, k.co1, rfl, _, _, rfl, .inr (TN.sq e2), ?_⟩
  refine ⟨b, ss, rs.length, by rw [nVs_len]; rfl, hR2, h1, h4, h6, fun H3 p2 s3 e3 => ?_⟩
  have hx3 := s3 _ _ (upd_same (H := H1) (a := x) (o := .ins cC dx [("rounds", .ref p)]))
  refine ⟨_, rfl, x, cC, dx, _, rfl, hx3, k.co, k.co2, by show 1 < 1000; decide, ?_⟩
  have w4 : SameX x H3 (upd H3 x (.ins cC dx [("rounds", .ref p), ("rests", .ref p2)])) := SmE.updE .refl rfl
  have nt : ∀ xs, H3 x ≠ some (.tup xs) := fun xs z => by rw [hx3] at z; cases z
  exact q _ ((((SmE.of s1).trans w2).trans (SmE.of s3)).trans w4) ⟨dx, p, p2, upd_same, (e2.same s3).x w4 nt, e3.x w4 nt⟩
/-- Counters(..) -/
theorem make_co {H : Hp} {a b : Addr} {rs ss : List Nat} {R : VK} {E : XK} (hL : LN H a rs) (h1 : 1 ≤ rs.length) (h4 : rs.length ≤ 4) (h60 : ∀ r ∈ rs, r ≤ 60) (hR : RestsOf K H b ss rs.length) (h6 : ∀ s ∈ ss, s ≤ 6) (x dx : Addr) (nx : H x = none) (ndx : H dx = none) (ne : dx ≠ x)
    (q : ∀ H', Same H H' → CoAt cC H' x rs ss → R .non H') : spCo K cC [.ref x, .ref a, .ref b] (upd (upd H dx (.own x)) x (.ins cC dx [])) R E := by
  have s1 : Same H (upd (upd H dx (.own x)) x (.ins cC dx [])) := fun c o e => by
    rw [upd_ne (ne_of_none e nx), upd_ne (ne_of_none e ndx)]
    exact e
  refine ⟨x, dx, a, b, rs, ss, rfl, upd_same, hL.same s1, h1, h4, h60, ?_, h6, fun H' w' c' => q H' (fun c o e => ?_) c'⟩
  · rcases hR with ⟨z1, z2⟩ | z
    · exact .inl ⟨z1.same s1, z2⟩
    · exact .inr z
  · exact w' c o (ne_of_none e nx) (s1 c o e)
/-- a machine of these tables, of n states -/
def MaAt (cM : Addr) (H : Hp) (x : Addr) (ts : List (List Nat)) (n : Nat) : Prop := ∃ dx a, H x = some (.ins cM dx [("tables", .ref a), ("deeds", nV ts.length), ("states", nV n)]) ∧ TT2 H a ts
theorem MaAt.same {H H' : Hp} {x : Addr} {ts : List (List Nat)} {n : Nat} (h : MaAt cM H x ts n) (s : Same H H') : MaAt cM H' x ts n := by
  obtain ⟨dx, a, h1, h2⟩ := h
  exact ⟨dx, a, s _ _ h1, h2.same s⟩
def spFit (cC cM : Addr) : Sp := fun vs H Q _ => ∃ (m c : Addr) (rs ss : List Nat) (ts : List (List Nat)) (n : Nat), vs = [.ref m, .ref c] ∧ MaAt cM H m ts n ∧ CoAt cC H c rs ss ∧ rs.length = ts.length ∧ Q (.ref c) H
theorem ok_need_fit {f : Addr} {fd : FuncData} (F : Fun K "need_fit" "need_fit" s_need_fit f fd) (T : Tx mg) (k : Kl K cC cM cT) : FnOk P w K mg base CX0 1 f fd ["machine", "counters"] (spFit cC cM) := by
  refine F.ok c_need_fit (fun vs H Q E h => ?_) (fun cdv A outer s H vs Q E hr h => ?_)
  · obtain ⟨m, c, rs, ss, ts, n, rfl, _⟩ := h
    rfl
  obtain ⟨m, c, rs, ss, ts, n, rfl, ⟨dm, am, hm, _⟩, ⟨dc, ac, bc, hc, h1, h2⟩, hl, q⟩ := h
  refine ⟨_, pss_cons (ps_if (pt_cmpR op_ne (pe_callB (id := "len") (r := rLenOf K) call_len_seq (by rfl) T.n_len (by decide +kernel) (pa_cons (pe_fld (pv 1) rfl) (pa_nil))) (pe_fld (pv 0) rfl) (nomark _)) (pss_one (ps_never))
    (pss_nil))
  (pss_one (ps_ret (pv 1))), ?_⟩
  refine ⟨_, rfl, _, _, _, _, _, rfl, hc, k.co, k.co1, rfl, _, _, rfl, .inr (TN.sq h1), _, rfl, _, _, _, _, _, rfl, hm, k.ma, k.ma2, rfl, rfl, _, rfl, iteFb ?_ ⟨_, rfl, q⟩⟩
  rw [nVs_len, hl]
  simp
def spFinite (cC : Addr) : Sp := fun vs H Q _ => ∃ (c : Addr) (rs ss : List Nat), vs = [.ref c] ∧ CoAt cC H c rs ss ∧ Q (.bl (decide (0 ∉ rs))) H
theorem in_zero : ∀ rs : List Nat, inV (.int 0) (nVs rs) = decide (0 ∈ rs)
  | [] => by simp [inV]
  | r :: rs => by
    have ih := in_zero rs
    unfold inV at ih ⊢
    rw [nVs, List.map_cons, List.any_cons, ih]
    by_cases h : r = 0
    · subst h
      simp [eqV]
    · have h' : ¬ (0 = r) := fun z => h z.symm
      simp [eqV, h, h']
theorem ints_flat : ∀ rs : List Nat, (nVs rs).all flatV = true
  | [] => rfl
  | r :: rs => by
    rw [nVs, List.map_cons, List.all_cons]
    exact ints_flat rs
theorem ok_is_finite {f : Addr} {fd : FuncData} (F : Fun K "is_finite" "is_finite" s_is_finite f fd) (k : Kl K cC cM cT) : FnOk P w K mg base CX0 1 f fd ["counters"] (spFinite cC) := by
  refine F.ok c_is_finite (fun vs H Q E h => ?_) (fun cdv A outer s H vs Q E hr h => ?_)
  · obtain ⟨c, rs, ss, rfl, _⟩ := h
    rfl
  obtain ⟨c, rs, ss, rfl, ⟨dc, ac, bc, hc, h1, h2⟩, q⟩ := h
  refine ⟨_, pss_one (ps_ret (pe_cmpR op_notIn_seq (pe_int) (pe_fld (pv 0) rfl) (by with_unfolding_all rfl))), ?_⟩
  refine ⟨_, rfl, _, _, _, _, _, rfl, hc, k.co, k.co1, rfl, _, _, rfl, .inr (TN.sq h1), rfl, ints_flat rs, ?_⟩
  have e : (!inV (.int 0) (nVs rs)) = decide (0 ∉ rs) := by
    rw [in_zero]
    by_cases h : 0 ∈ rs <;> simp [h]
  show Q (.bl (!inV (.int 0) (nVs rs))) H
  rw [e]
  exact q
def spShAs (cC : Addr) : Sp := fun vs H Q _ => ∃ (c : Addr) (rs ss : List Nat) (d m t s : Nat), vs = [.ref c, nV d, nV m] ∧ CoAt cC H c rs ss ∧ rs[d]? = some t ∧ ss[d]? = some s ∧ Q (nV (shAs t s m)) H
theorem ok_shown_as {f : Addr} {fd : FuncData} (F : Fun K "shown_as" "shown_as" s_shown_as f fd) (k : Kl K cC cM cT) : FnOk P w K mg base CX0 1 f fd ["counters", "kind", "many"] (spShAs cC) := by
  refine F.ok c_shown_as (fun vs H Q E h => ?_) (fun cdv A outer s H vs Q E hr h => ?_)
  · obtain ⟨c, rs, ss, d, m, t, s, rfl, _⟩ := h
    rfl
  obtain ⟨c, rs, ss, d, m, t, s', rfl, ⟨dc, ac, bc, hc, h1, h2⟩, ht, hs, q⟩ := h
  refine ⟨_, pss_cons (ps_par (i := 3) (j := 4) rfl c_shown_as.nd rfl rfl (by decide) rfl rfl (pa_cons (pe_ix (r := rIxT K) ix_tup (pe_fld (pv 0) rfl) (pv 1) (fun _ _ => rfl)) (pa_cons (pe_ix (r := rIxT K) ix_tup (pe_fld (pv 0) rfl) (pv 1) (fun _ _ => rfl)) pa_nil)) (by rfl))
  (pss_cons (ps_if (PW.pt (pw_or (pt_cmpR op_eq (pv 3) (pe_int) (nomark _)) (pw_or1 (pt_cmpR op_lt (pv 2) (pv 4) (nomark _))))) (pss_one (ps_ret (pv 2)))
    (pss_nil))
  (pss_one (ps_ret (pe_op op_add (pv 4) (pe_op op_mod (pe_op op_sub (pv 2) (pv 4)) (pv 3)))))), ?_⟩
  refine ⟨_, rfl, _, _, _, _, _, rfl, hc, k.co, k.co1, rfl, _, rfl, _, _, _, _, rfl, rfl, TN.sq h1, atI_nat (nVs_get ht), ?_⟩
  refine ⟨_, rfl, _, _, _, _, _, rfl, hc, k.co, k.co2, rfl, _, rfl, _, _, _, _, rfl, rfl, TN.sq h2, atI_nat (nVs_get hs), ?_⟩
  refine ⟨_, _, rfl, ?_⟩
  refine ⟨_, rfl, rfl, _, rfl, ?_⟩
  by_cases h0 : t = 0
  · subst h0
    refine iteTb (by simp) (iteTb rfl ?_)
    refine ⟨_, rfl, ?_⟩
    rw [show shAs 0 s' m = m from if_pos (.inl rfl)] at q
    exact q
  · refine iteFb (by simp; omega) ?_
    refine ⟨_, rfl, _, rfl, _, _, rfl, rfl, _, rfl, ?_⟩
    by_cases h1 : m < s'
    · refine iteTb (decide_eq_true (by omega)) ?_
      refine ⟨_, rfl, ?_⟩
      rw [show shAs t s' m = m from if_pos (.inr h1)] at q
      exact q
    · refine iteFb (decide_eq_false (by omega)) ?_
      refine ⟨_, rfl, _, rfl, _, rfl, _, _, rfl, rfl, _, rfl, _, _, rfl, rfl, by show (0 : Int) < (t : Nat); omega, _, _, rfl, rfl, ?_⟩
      have e : ((s' : Nat) : Int) + ((m : Nat) - (s' : Nat) : Int) % ((t : Nat) : Int) = ((shAs t s' m : Nat) : Int) := by
        rw [show shAs t s' m = s' + (m - s') % t from if_neg (by omega)]
        have : ((m : Nat) - (s' : Nat) : Int) = ((m - s' : Nat) : Int) := by omega
        rw [this]
        simp
      have q' : Q (.int ((shAs t s' m : Nat) : Int)) H := q
      rw [← e] at q'
      exact q'
end
end Ow

/-! ## W4 -/
set_option Elab.async false
set_option linter.all false
set_option maxRecDepth 100000
set_option maxHeartbeats 4000000
/-! shown_of, is_shown, check_showing, shown_next -/
namespace Ow
open PySem PySem.Spec PyProof.Rows L2
theorem getD_of {α : Type} {l : List α} {i : Nat} {x d : α} (h : l[i]? = some x) : l.getD i d = x := by rw [List.getD_eq_getElem?_getD, h]; rfl
theorem get_lt {α : Type} {l : List α} {i : Nat} (h : i < l.length) : ∃ x, l[i]? = some x := ⟨l[i], List.getElem?_eq_getElem h⟩
section
variable {P : Program} {w : World} {K : PySem.W.Frag} {mg : Str → Option Value} {base : Heap} {cC cM cT : Addr}
def spShOf (K : PySem.W.Frag) (cC : Addr) : Sp := fun vs H Q _ => ∃ (c e : Addr) (rs ss : List Nat), vs = [.ref c, .ref e] ∧ CoAt cC H c rs ss ∧ TN H e [] ∧ rs.length ≤ 4 ∧ ss.length = rs.length ∧ 1 ≤ rs.length ∧ ∀ H' p, Same H H' → TN H' p (List.replicate rs.length 0) → Q (.ref p) H'
theorem ok_shown_of {f : Addr} {fd : FuncData} (F : Fun K "shown_of" "shown_of" s_shown_of f fd) (T : Tx mg) (k : Kl K cC cM cT) (C_shown_as : Cl P w K mg base CX0 1 "shown_as" ["counters", "kind", "many"] (spShAs cC) []) : FnOk P w K mg base CX0 2 f fd ["counters", "row"] (spShOf K cC) := by
  refine F.ok c_shown_of (fun vs H Q E h => ?_) (fun cdv A outer s H vs Q E hr h => ?_)
  · obtain ⟨c, e, rs, ss, rfl, _⟩ := h
    rfl
  obtain ⟨c, e, rs, ss, rfl, co, he, h4, hl, hl1, q⟩ := h
  obtain ⟨dc, ac, bc, hc, h1, h2⟩ := id co
  refine ⟨_, pss_cons (ps_set (i := 2) c_shown_of.nd rfl (Or.inl rfl) (pe_op op_rep (pe_lst (pa_cons (pe_int) (pa_nil))) (pe_callB (id := "len") (r := rLenOf K) call_len_seq (by rfl) T.n_len (by decide +kernel) (pa_cons (pe_fld (pv 0) rfl) (pa_nil)))))
  (pss_cons (ps_for PassesOwn.never rfl (pi_tupK K (pv 1)) (pg_name (i := 3) c_shown_of.nd rfl (Or.inl rfl))
    (pss_one (ps_never)))
  (pss_one (ps_ret (pe_callTy (T := "tuple") (r := rTupOf K) call_tuple_of (by rfl) T.n_tuple (by decide +kernel) (pa_cons (pe_lc (own := [("kind", 4), ("many", 5)]) (g := gTup K 2 (gCons (gName 4) (gCons (gName 5) (gNil)))) (tt := tYes) rfl c_shown_of.nd (pi_enumA (by rfl) T.n_enumerate (pa_cons (pv 2) (pa_nil))) (blkOk_by (by kernel_rfl)) (fun _ _ _ _ _ => pg_tup rfl (pgs_cons (pg_name (i := 4) c_shown_of.nd rfl (by first | exact Or.inl rfl | exact Or.inr rfl)) (pgs_cons (pg_name (i := 5) c_shown_of.nd rfl (by first | exact Or.inl rfl | exact Or.inr rfl)) (pgs_nil)))) (fun _ _ _ _ _ => pts_nil) (fun _ _ _ _ _ => pe_cl C_shown_as (hr.mono (by decide)) pass0 rfl (pa_cons (pv 0) (pa_cons (pv 4) (pa_cons (pv 5) (pa_nil)))))) (pa_nil)))))), ?_⟩
  refine ⟨Nat.le_of_lt (by decide), fun z nz => ?_⟩
  have s1 : Same H (upd H z (.lst [V.int 0])) := Same.upd nz
  have h1' := h1.same s1
  refine ⟨_, rfl, _, _, _, _, _, rfl, s1 _ _ hc, k.co, k.co1, rfl, _, _, rfl, .inr (TN.sq h1'), ?_⟩
  rw [nVs_len]
  refine ⟨z, _, _, rfl, rfl, upd_same, by omega, by omega, ?_, fun l nl => ?_⟩
  · have e : sizeLine = 16777216 := sizeLine_eq
    simp
    omega
  have s2 : Same H (upd (upd H z (.lst [V.int 0])) l (.lst (List.replicate (rs.length : Int).toNat [V.int 0]).flatten)) := s1.trans (Same.upd nl)
  have hl2 : LN (upd (upd H z (.lst [V.int 0])) l (.lst (List.replicate (rs.length : Int).toNat [V.int 0]).flatten)) l (List.replicate rs.length 0) := by
    show _ = _
    rw [upd_same]
    simp
  generalize upd (upd H z (.lst [V.int 0])) l (.lst (List.replicate (rs.length : Int).toNat [V.int 0]).flatten) = H2 at s2 hl2 ⊢
  refine ⟨_, rfl, e, rfl, ⟨_, TN.sq (he.same s2)⟩, for_tup (xs := []) (fun i σ H3 => σ = [some (.ref c), some (.ref e), some (.ref l), none, none, none] ∧ H3 = H2) ⟨rfl, rfl⟩ (fun i σ H3 _ p => by rw [p.2]; exact TN.sq (he.same s2)) (fun i x σ H3 hx => by simp at hx) (fun σ H3 p => ?_)⟩
  obtain ⟨rfl, rfl⟩ := p
  refine ⟨_, rfl, l, _, rfl, .inl ⟨LN.sq hl2, fun D hD => ?_⟩⟩
  refine lcE_it (E := E0') (J := fun _ => True) (R := fun _ y _ => y = nV 0) (n := rs.length) (fun i x H4 => ∃ T, x = .ref T ∧ H4 T = some (.tup [nV i, nV 0])) hD (fun z => z) (small8 (by omega)) trivial (fun _ _ _ => trivial) (fun _ _ _ _ _ _ e _ => e) ?_ ?_ ?_ ?_ ?_
  · intro i H4 hi w4 _
    exact ⟨_, nV 0, LN.sq (hl2.same w4.same), nVs_get (by rw [List.getElem?_replicate, if_pos hi])⟩
  · intro H4 w4 _
    exact ⟨_, LN.sq (hl2.same w4.same), by rw [nVs_len]; simp⟩
  · rintro i H4 x H5 hi w4 _ ⟨T, x', rfl, nT, rfl, hx⟩
    have ex := hx _ (LN.sq (hl2.same w4.same))
    rw [nVs_get (n := 0) (by rw [List.getElem?_replicate, if_pos hi])] at ex
    cases ex
    exact ⟨SmE.new .refl nT, trivial, T, rfl, upd_same⟩
  · rintro i x H4 kk hi ⟨T, rfl, hT⟩ w4 _ _ fin
    obtain ⟨t, ht⟩ := get_lt (show i < rs.length from hi)
    obtain ⟨s', hs⟩ := get_lt (show i < ss.length by omega)
    refine ⟨T, _, rfl, SqT.of hT, rfl, _, _, rfl, _, _, rfl, rfl, rfl, ?_⟩
    refine ⟨_, rfl, _, rfl, _, rfl, c, rs, ss, i, 0, t, s', rfl, (co.same s2).same w4.same, ht, hs, ?_⟩
    rw [shAs_zero]
    exact fin _ _ .refl trivial rfl
  · intro H4 ys w4 _ hy ly ry
    have ey := all_rep ly ry
    refine ⟨D, ys, rfl, .inl ⟨SqL.of hy, fun p hp => ?_⟩⟩
    refine q _ p ((s2.trans w4.same).trans (Same.upd hp)) ?_
    show _ = _
    rw [upd_same, ey]
    simp
def spIsSh (cC : Addr) : Sp := fun vs H Q _ => ∃ (c : Addr) (rs ss : List Nat) (d m t s : Nat), vs = [.ref c, nV d, nV m] ∧ CoAt cC H c rs ss ∧ rs[d]? = some t ∧ ss[d]? = some s ∧ Q (.bl (decide (t = 0 ∨ m < s + t))) H
theorem ok_is_shown {f : Addr} {fd : FuncData} (F : Fun K "is_shown" "is_shown" s_is_shown f fd) (k : Kl K cC cM cT) (C_is_number : Cl P w K mg base CX0 2 "is_number" ["value"] spIsNum [])
    (C_is_below : Cl P w K mg base CX0 3 "is_below" ["value", "most"] spIsBelow []) : FnOk P w K mg base CX0 4 f fd ["counters", "kind", "value"] (spIsSh cC) := by
  refine F.ok c_is_shown (fun vs H Q E h => ?_) (fun cdv A outer s H vs Q E hr h => ?_)
  · obtain ⟨c, rs, ss, d, m, t, s, rfl, _⟩ := h
    rfl
  obtain ⟨c, rs, ss, d, m, t, s', rfl, ⟨dc, ac, bc, hc, h1, h2⟩, ht, hs, q⟩ := h
  refine ⟨_, pss_cons (ps_set (i := 3) c_is_shown.nd rfl (Or.inl rfl) (pe_ix (r := rIxT K) ix_tup (pe_fld (pv 0) rfl) (pv 1) (fun _ _ => rfl)))
  (pss_one (ps_ret (pe_ifExp (pt_cmpR op_eq (pv 3) (pe_int) (nomark _)) (pe_cl C_is_number (hr.mono (by decide)) pass0 rfl (pa_cons (pv 2) (pa_nil))) (pe_cl C_is_below (hr.mono (by decide)) pass0 rfl (pa_cons (pv 2) (pa_cons (pe_op op_add (pe_ix (r := rIxT K) ix_tup (pe_fld (pv 0) rfl) (pv 1) (fun _ _ => rfl)) (pv 3)) (pa_nil))))))), ?_⟩
  refine ⟨_, rfl, _, _, _, _, _, rfl, hc, k.co, k.co1, rfl, _, rfl, _, _, _, _, rfl, rfl, TN.sq h1, atI_nat (nVs_get ht), ?_⟩
  refine ⟨_, rfl, rfl, _, rfl, ?_⟩
  by_cases h0 : t = 0
  · subst h0
    refine iteTb (by simp) ?_
    refine ⟨_, rfl, _, rfl, ?_⟩
    simpa using q
  · refine iteFb (by simp; omega) ?_
    refine ⟨_, rfl, _, rfl, _, _, _, _, _, rfl, hc, k.co, k.co2, rfl, _, rfl, _, _, _, _, rfl, rfl, TN.sq h2, atI_nat (nVs_get hs), _, rfl, _, _, rfl, rfl, _, _, rfl, ?_⟩
    have e : decide ((0 : Int) ≤ (m : Nat) ∧ ((m : Nat) : Int) < (s' : Nat) + (t : Nat)) = decide (t = 0 ∨ m < s' + t) := by
      apply decide_eq_decide.mpr
      omega
    show Q (.bl (decide ((0 : Int) ≤ (m : Nat) ∧ ((m : Nat) : Int) < (s' : Nat) + (t : Nat)))) H
    rw [e]
    exact q
end
end Ow

/-! ## W5 -/
set_option Elab.async false
set_option linter.all false
set_option maxRecDepth 100000
set_option maxHeartbeats 4000000
/-! check_showing, shown_next -/
namespace Ow
open PySem PySem.Spec PyProof.Rows L2
theorem SqN.same {H H' : Hp} {a : Addr} {l : List Nat} (h : SqN H a l) (s : Same H H') : SqN H' a l := h.elim (fun z => .inl (z.same s)) fun z => .inr (z.same s)
section
variable {P : Program} {w : World} {K : PySem.W.Frag} {mg : Str → Option Value} {base : Heap} {cC cM cT : Addr}
theorem SqN.or {H : Hp} {a : Addr} {l : List Nat} (h : SqN H a l) : SqL K H a (nVs l) ∨ SqT K H a (nVs l) := h.elim (fun z => .inl (LN.sq z)) fun z => .inr (TN.sq z)
theorem SqN.ty {H : Hp} {a : Addr} {l : List Nat} (h : SqN H a l) : TyX K H (.ref a) (.type "list") ∨ TyX K H (.ref a) (.type "tuple") := h.elim (fun z => .inl (.base (.lst z))) fun z => .inr (.base (.tup z))
/-- the showing's numbers may stand -/
def ShOk (rs ss sh : List Nat) : Prop := sh.length = rs.length ∧ ∀ (d : Nat) t s m, rs[d]? = some t → ss[d]? = some s → sh[d]? = some m → t = 0 ∨ m < s + t
def spChSh (cC : Addr) : Sp := fun vs H Q _ => ∃ (c b : Addr) (rs ss sh : List Nat), vs = [.ref c, .ref b] ∧ CoAt cC H c rs ss ∧ rs.length ≤ 4 ∧ ss.length = rs.length ∧ SqN H b sh ∧ ShOk rs ss sh ∧ ∀ H' p, Same H H' → TN H' p sh → Q (.ref p) H'
theorem ok_check_showing {f : Addr} {fd : FuncData} (F : Fun K "check_showing" "check_showing" s_check_showing f fd) (T : Tx mg) (k : Kl K cC cM cT) (C_is_sequence : Cl P w K mg base CX0 1 "is_sequence" ["value"] (spIsSeq K) [])
    (C_is_shown : Cl P w K mg base CX0 4 "is_shown" ["counters", "kind", "value"] (spIsSh cC) []) : FnOk P w K mg base CX0 5 f fd ["counters", "value"] (spChSh cC) := by
  refine F.ok c_check_showing (fun vs H Q E h => ?_) (fun cdv A outer s H vs Q E hr h => ?_)
  · obtain ⟨c, b, rs, ss, sh, rfl, _⟩ := h
    rfl
  obtain ⟨c, b, rs, ss, sh, rfl, co, h4, hl, hb, ⟨hs1, hs2⟩, q⟩ := h
  refine ⟨_, pss_cons (ps_if (PW.pt (pw_or (pt_not (pt_val (pe_cl C_is_sequence (hr.mono (by decide)) pass0 rfl (pa_cons (pv 1) (pa_nil))))) (pw_or1 (pt_cmpR op_ne (pe_callB (id := "len") (r := rLenOf K) call_len_seq (by rfl) T.n_len (by decide +kernel) (pa_cons (pv 1) (pa_nil))) (pe_callB (id := "len") (r := rLenOf K) call_len_seq (by rfl) T.n_len (by decide +kernel) (pa_cons (pe_fld (pv 0) rfl) (pa_nil))) (nomark _))))) (pss_one (ps_never))
    (pss_nil))
  (pss_cons (ps_for PassesOwn.never rfl (pi_enumA (by rfl) T.n_enumerate (pa_cons (pv 1) (pa_nil))) (pg_tup rfl (pgs_cons (pg_name (i := 2) c_check_showing.nd rfl (Or.inl rfl)) (pgs_cons (pg_name (i := 3) c_check_showing.nd rfl (Or.inl rfl)) (pgs_nil))))
    (pss_one (ps_if (pt_not (pt_val (pe_cl C_is_shown (hr.mono (by decide)) pass0 rfl (pa_cons (pv 0) (pa_cons (pv 2) (pa_cons (pv 3) (pa_nil))))))) (pss_one (ps_never))
    (pss_nil))))
  (pss_one (ps_ret (pe_callTy (T := "tuple") (r := rTupOf K) call_tuple_of (by rfl) T.n_tuple (by decide +kernel) (pa_cons (pv 1) (pa_nil)))))), ?_⟩
  refine ⟨_, rfl, .ref b, rfl, SqN.ty hb, fun H1 s1 => ⟨true, rfl, iteF ?_⟩⟩
  obtain ⟨dc, ac, bc, hc, h1, h2⟩ := co.same s1
  have co1 := co.same s1
  have hb1 := hb.same s1
  refine ⟨_, rfl, _, _, rfl, SqN.or hb1, _, rfl, _, _, _, _, _, rfl, hc, k.co, k.co1, rfl, _, _, rfl, .inr (TN.sq h1), rfl, _, rfl, iteFb ?_ ?_⟩
  · rw [nVs_len, nVs_len, hs1]
    simp
  have fin : ∀ H5, Same H1 H5 → ∃ p ys, [V.ref b] = [.ref p] ∧ ((SqL K H5 p ys ∧ ∀ l, H5 l = none → Q (.ref l) (upd H5 l (.tup ys))) ∨ (SqT K H5 p ys ∧ Q (.ref p) H5)) := fun H5 s5 => by
    rcases hb1.same s5 with z | z
    · exact ⟨b, _, rfl, .inl ⟨LN.sq z, fun l nl => q _ _ ((s1.trans s5).trans (Same.upd nl)) upd_same⟩⟩
    · exact ⟨b, _, rfl, .inr ⟨TN.sq z, q _ _ (s1.trans s5) z⟩⟩
  rcases hb1 with z | z
  · refine ⟨_, rfl, b, _, rfl, .inl ⟨LN.sq z, ?_⟩⟩
    refine for_it (n := sh.length) (fun i σ H4 => ∃ v2 v3, σ = [some (.ref c), some (.ref b), v2, v3] ∧ Same H1 H4) ⟨none, none, rfl, Same.refl _⟩ (fun i σ H4 hi p => ?_) (fun σ H4 p => ?_) (fun i x σ H4 H5 hi p y => ?_) (fun σ H4 p => ?_)
    · obtain ⟨_, _, _, s4⟩ := p
      obtain ⟨m, hm⟩ := get_lt hi
      exact ⟨_, nV m, LN.sq (z.same s4), nVs_get hm⟩
    · obtain ⟨_, _, _, s4⟩ := p
      exact ⟨_, LN.sq (z.same s4), by rw [nVs_len]; exact Nat.le_refl _⟩
    · obtain ⟨v2, v3, rfl, s4⟩ := p
      obtain ⟨T, x', rfl, nT, rfl, hx⟩ := y
      obtain ⟨m, hm⟩ := get_lt hi
      have ex := hx _ (LN.sq (z.same s4))
      rw [nVs_get hm] at ex
      cases ex
      have s5 : Same H1 (upd H4 T (.tup [.int (i : Nat), nV m])) := s4.trans (Same.upd nT)
      obtain ⟨t, ht⟩ := get_lt (show i < rs.length by omega)
      obtain ⟨s', hs⟩ := get_lt (show i < ss.length by omega)
      refine ⟨T, _, rfl, SqT.of upd_same, rfl, _, _, rfl, _, _, rfl, rfl, ?_⟩
      refine ⟨_, rfl, _, rfl, _, rfl, c, rs, ss, i, m, t, s', rfl, co1.same s5, ht, hs, _, rfl, iteFb ?_ ⟨_, _, rfl, s5⟩⟩
      rw [decide_eq_true (hs2 i t s' m ht hs hm)]
      rfl
    · obtain ⟨_, _, rfl, s4⟩ := p
      exact ⟨_, rfl, fin H4 s4⟩
  · refine ⟨_, rfl, b, _, rfl, .inr ⟨TN.sq z, ?_⟩⟩
    refine for_it (n := sh.length) (fun i σ H4 => ∃ v2 v3, σ = [some (.ref c), some (.ref b), v2, v3] ∧ Same H1 H4) ⟨none, none, rfl, Same.refl _⟩ (fun i σ H4 hi p => ?_) (fun σ H4 p => ?_) (fun i x σ H4 H5 hi p y => ?_) (fun σ H4 p => ?_)
    · obtain ⟨_, _, _, s4⟩ := p
      obtain ⟨m, hm⟩ := get_lt hi
      exact ⟨_, nV m, TN.sq (z.same s4), nVs_get hm⟩
    · obtain ⟨_, _, _, s4⟩ := p
      exact ⟨_, TN.sq (z.same s4), by rw [nVs_len]⟩
    · obtain ⟨v2, v3, rfl, s4⟩ := p
      obtain ⟨T, x', rfl, nT, rfl, hx⟩ := y
      obtain ⟨m, hm⟩ := get_lt hi
      have ex := hx _ (TN.sq (z.same s4))
      rw [nVs_get hm] at ex
      cases ex
      have s5 : Same H1 (upd H4 T (.tup [.int (i : Nat), nV m])) := s4.trans (Same.upd nT)
      obtain ⟨t, ht⟩ := get_lt (show i < rs.length by omega)
      obtain ⟨s', hs⟩ := get_lt (show i < ss.length by omega)
      refine ⟨T, _, rfl, SqT.of upd_same, rfl, _, _, rfl, _, _, rfl, rfl, ?_⟩
      refine ⟨_, rfl, _, rfl, _, rfl, c, rs, ss, i, m, t, s', rfl, co1.same s5, ht, hs, _, rfl, iteFb ?_ ⟨_, _, rfl, s5⟩⟩
      rw [decide_eq_true (hs2 i t s' m ht hs hm)]
      rfl
    · obtain ⟨_, _, rfl, s4⟩ := p
      exact ⟨_, rfl, fin H4 s4⟩
theorem cut_to (l : List Nat) (d : Nat) : cutV (nVs l) none (some (d : Nat)) = nVs (l.take d) := by
  unfold cutV
  rw [HT.sIx_none, HT.sIx_nat, nVs_len, List.drop_zero, nVs, ← List.map_take, Nat.sub_zero]
  congr 1
  rw [List.take_eq_take_iff]
  omega
theorem cut_from (l : List Nat) (d : Nat) : cutV (nVs l) (some (d : Nat)) none = nVs (l.drop d) := by
  unfold cutV
  rw [HT.sIx_none, HT.sIx_nat, nVs_len, nVs, ← List.map_drop, ← List.map_take]
  congr 1
  by_cases h : d ≤ l.length
  · rw [Nat.min_eq_left h, List.take_of_length_le (by simp)]
  · rw [Nat.min_eq_right (by omega), List.drop_of_length_le (Nat.le_refl _), List.drop_of_length_le (by omega)]
    simp
theorem set_cut : ∀ (l : List Nat) (d v : Nat), d < l.length → l.take d ++ [v] ++ l.drop (d + 1) = l.set d v
  | [], _, _, h => by simp at h
  | x :: l, 0, v, _ => by simp
  | x :: l, d + 1, v, h => by
    have ih := set_cut l d v (by simpa using h)
    simp at ih ⊢
    exact ih
def spNext (cC : Addr) : Sp := fun vs H Q _ => ∃ (c b : Addr) (rs ss sh : List Nat) (d : Nat), vs = [.ref c, .ref b, nV d] ∧ CoAt cC H c rs ss ∧ TN H b sh ∧ d < sh.length ∧ sh.length ≤ 4 ∧ rs.length = sh.length ∧ ss.length = sh.length ∧ ∀ H' p, Same H H' → TN H' p (nextSh rs ss sh d) → Q (.ref p) H'
theorem ok_shown_next {f : Addr} {fd : FuncData} (F : Fun K "shown_next" "shown_next" s_shown_next f fd) (C_shown_as : Cl P w K mg base CX0 1 "shown_as" ["counters", "kind", "many"] (spShAs cC) []) : FnOk P w K mg base CX0 2 f fd ["counters", "showing", "deed"] (spNext cC) := by
  refine F.ok c_shown_next (fun vs H Q E h => ?_) (fun cdv A outer s H vs Q E hr h => ?_)
  · obtain ⟨c, b, rs, ss, sh, d, rfl, _⟩ := h
    rfl
  obtain ⟨c, b, rs, ss, sh, d, rfl, co, hb, hd, h4, hrs, hss, q⟩ := h
  refine ⟨_, pss_one (ps_ret (pe_op (r := rCatA K) op_catA (pe_op (r := rCatA K) op_catA (pe_slice sl_tup (pv 1) (po_none) (po_some (pv 2))) (pe_tup (pa_cons (pe_cl C_shown_as (hr.mono (by decide)) pass0 rfl (pa_cons (pv 0) (pa_cons (pv 2) (pa_cons (pe_op op_add (pe_ix (r := rIxT K) ix_tup (pv 1) (pv 2) (fun _ _ => rfl)) (pe_int)) (pa_nil))))) (pa_nil)))) (pe_slice sl_tup (pv 1) (po_some (pe_op op_add (pv 2) (pe_int))) (po_none)))), ?_⟩
  obtain ⟨m, hm⟩ := get_lt hd
  obtain ⟨t, ht⟩ := get_lt (show d < rs.length by omega)
  obtain ⟨s', hs⟩ := get_lt (show d < ss.length by omega)
  refine ⟨_, rfl, _, rfl, _, rfl, b, _, rfl, TN.sq hb, ?_, fun p1 n1 => ?_⟩
  · rintro ⟨_, z⟩
    rw [HT.sIx_nat, nVs_len] at z
    omega
  have s1 : Same H (upd H p1 (.tup (cutV (nVs sh) none (some (d : Nat))))) := Same.upd n1
  have e1 : TN (upd H p1 (.tup (cutV (nVs sh) none (some (d : Nat))))) p1 (sh.take d) := by
    show _ = _
    rw [upd_same, cut_to]
  generalize upd H p1 (.tup (cutV (nVs sh) none (some (d : Nat)))) = H1 at s1 e1 ⊢
  refine ⟨_, rfl, _, rfl, _, rfl, _, rfl, _, _, _, _, rfl, rfl, TN.sq (hb.same s1), atI_nat (nVs_get hm), _, _, rfl, rfl, ?_⟩
  refine ⟨c, rs, ss, d, m + 1, t, s', rfl, co.same s1, ht, hs, by show 1 ≤ sizeLine; decide, fun p2 n2 => ?_⟩
  have s2 : Same H1 (upd H1 p2 (.tup [nV (shAs t s' (m + 1))])) := Same.upd n2
  have e2 : TN (upd H1 p2 (.tup [nV (shAs t s' (m + 1))])) p2 [shAs t s' (m + 1)] := upd_same
  generalize upd H1 p2 (.tup [nV (shAs t s' (m + 1))]) = H2 at s2 e2 ⊢
  have join : ∀ (H3 : Hp) (p3 : Addr) (R : V → Hp → Prop), Same H H3 → TN H3 p3 (sh.take d ++ [shAs t s' (m + 1)]) → (∀ H' p, Same H H' → TN H' p (nextSh rs ss sh d) → R (.ref p) H') →
      ∃ a xs, (V.ref b) = .ref a ∧ SqT K H3 a xs ∧ ¬ (HT.sIx xs.length 0 (some ((d : Int) + 1)) = 0 ∧ HT.sIx xs.length xs.length none = xs.length) ∧ ∀ p, H3 p = none → rCatA K (.ref p3) (.ref p) (upd H3 p (.tup (cutV xs (some ((d : Int) + 1)) none))) R := fun H3 p3 R s3 e3 r => by
    refine ⟨b, _, rfl, TN.sq (hb.same s3), ?_, fun p4 n4 => ?_⟩
    · rintro ⟨z, _⟩
      rw [show ((d : Int) + 1) = ((d + 1 : Nat) : Int) from rfl, HT.sIx_nat, nVs_len] at z
      omega
    have s4 : Same H3 (upd H3 p4 (.tup (cutV (nVs sh) (some ((d : Int) + 1)) none))) := Same.upd n4
    have e4 : TN (upd H3 p4 (.tup (cutV (nVs sh) (some ((d : Int) + 1)) none))) p4 (sh.drop (d + 1)) := by
      show _ = _
      rw [upd_same, show ((d : Int) + 1) = ((d + 1 : Nat) : Int) from rfl, cut_from]
    have enx : sh.take d ++ [shAs t s' (m + 1)] ++ sh.drop (d + 1) = nextSh rs ss sh d := by
      rw [set_cut sh d _ hd]
      unfold nextSh
      rw [getD_of ht, getD_of hs, getD_of hm]
    have hz : sizeLine = 16777216 := sizeLine_eq
    refine ⟨p3, p4, _, _, rfl, rfl, TN.sq (e3.same s4), TN.sq e4, ?_, fun z => ?_, fun _ z => ?_, fun _ _ p5 n5 => ?_⟩
    · rw [nVs_len, nVs_len]
      simp
      omega
    · have := congrArg List.length z
      rw [nVs_len] at this
      simp at this
    · have hd1 : sh.drop (d + 1) = [] := by
        have := congrArg List.length z
        rw [nVs_len] at this
        exact List.eq_nil_of_length_eq_zero this
      rw [hd1, List.append_nil] at enx
      rw [enx] at e3
      exact r _ _ (s3.trans s4) (e3.same s4)
    · refine r _ _ ((s3.trans s4).trans (Same.upd n5)) ?_
      show _ = _
      rw [upd_same, ← enx]
      simp [nVs]
  refine ⟨p1, p2, _, _, rfl, rfl, TN.sq (e1.same s2), TN.sq e2, ?_, fun z => ?_, fun _ z => ?_, fun _ _ p5 n5 => ?_⟩
  · have hz : sizeLine = 16777216 := sizeLine_eq
    rw [nVs_len, nVs_len]
    simp
    omega
  · have h0 : sh.take d = [] := by
      have := congrArg List.length z
      rw [nVs_len] at this
      exact List.eq_nil_of_length_eq_zero this
    exact ⟨_, rfl, _, rfl, _, _, rfl, rfl, _, rfl, join _ p2 _ (s1.trans s2) (by rw [h0]; exact e2) q⟩
  · cases z
  · exact ⟨_, rfl, _, rfl, _, _, rfl, rfl, _, rfl, join _ p5 _ ((s1.trans s2).trans (Same.upd n5)) (by show _ = _; rw [upd_same]; simp [nVs]) q⟩
end
end Ow

/-! ## W6 -/
set_option Elab.async false
set_option linter.all false
set_option maxRecDepth 100000
set_option maxHeartbeats 4000000
/-! Machines -/
namespace Ow
open PySem PySem.Spec PyProof.Rows L2
abbrev s_is_table : Stmt := topS 30
theorem c_is_table : FnScope ["value", "states", "state"] ["value", "states"] (defScope s_is_table) := ⟨rfl, rfl, rfl, by decide +kernel, rfl, by decide +kernel, by decide +kernel⟩
abbrev s_check_tables : Stmt := topS 31
theorem c_check_tables : FnScope ["value", "states", "at", "table"] ["value"] (defScope s_check_tables) := ⟨rfl, rfl, rfl, by decide +kernel, rfl, by decide +kernel, by decide +kernel⟩
abbrev s_Machine : Stmt := inClass (topS 32) 0
theorem c_Machine : FnScope ["self", "tables"] ["self", "tables"] (defScope s_Machine) := ⟨rfl, rfl, rfl, by decide +kernel, rfl, by decide +kernel, by decide +kernel⟩
abbrev s_need_state : Stmt := topS 33
theorem c_need_state : FnScope ["machine", "state"] ["machine", "state"] (defScope s_need_state) := ⟨rfl, rfl, rfl, by decide +kernel, rfl, by decide +kernel, by decide +kernel⟩
abbrev s_reached : Stmt := topS 34
theorem c_reached : FnScope ["machine", "first", "found", "waiting", "here", "table"] ["machine", "first"] (defScope s_reached) := ⟨rfl, rfl, rfl, by decide +kernel, rfl, by decide +kernel, by decide +kernel⟩
abbrev s_moves_of : Stmt := topS 36
theorem c_moves_of : FnScope ["machine", "first", "states", "table", "state"] ["machine", "first"] (defScope s_moves_of) := ⟨rfl, rfl, rfl, by decide +kernel, rfl, by decide +kernel, by decide +kernel⟩

/-- tables of n states -/
structure TbOk (ts : List (List Nat)) (n : Nat) : Prop where
  one : 1 ≤ ts.length
  four : ts.length ≤ 4
  n1 : 1 ≤ n
  n8 : n ≤ 8
  len : ∀ row ∈ ts, row.length = n
  lt : ∀ row ∈ ts, ∀ s ∈ row, s < n
theorem paired_at {α β : Type} {R : α → β → Prop} {xs : List α} {ys : List β} (h : Paired R xs ys) : ∀ {i : Nat} {y : β}, ys[i]? = some y → ∃ x, xs[i]? = some x ∧ R x y := by
  induction h with
  | nil => intro i y h; simp at h
  | cons r t ih =>
    intro i y h
    cases i with
    | zero => cases h; exact ⟨_, rfl, r⟩
    | succ i => exact ih (by simpa using h)
theorem paired_at' {α β : Type} {R : α → β → Prop} {xs : List α} {ys : List β} (h : Paired R xs ys) : ∀ {i : Nat} {x : α}, xs[i]? = some x → ∃ y, ys[i]? = some y ∧ R x y := by
  induction h with
  | nil => intro i y h; simp at h
  | cons r t ih =>
    intro i y h
    cases i with
    | zero => cases h; exact ⟨_, rfl, r⟩
    | succ i => exact ih (by simpa using h)
theorem refs_at {as : List Addr} {i : Nat} {a : Addr} (h : as[i]? = some a) : (as.map V.ref)[i]? = some (V.ref a) := by rw [List.getElem?_map, h]; rfl
theorem refs_back {as : List Addr} {i : Nat} {x : V} (h : (as.map V.ref)[i]? = some x) : ∃ a, as[i]? = some a ∧ x = .ref a := by
  rw [List.getElem?_map] at h
  cases e : as[i]? with
  | none => rw [e] at h; cases h
  | some n => rw [e] at h; exact ⟨n, rfl, (Option.some.inj h).symm⟩
section
variable {P : Program} {w : World} {K : PySem.W.Frag} {mg : Str → Option Value} {base : Heap} {cC cM cT : Addr}
def spIsTab : Sp := fun vs H Q _ => ∃ (a : Addr) (row : List Nat) (n : Nat), vs = [.ref a, nV n] ∧ TN H a row ∧ row.length = n ∧ n ≤ 8 ∧ (∀ s ∈ row, s < n) ∧ ∀ H', Same H H' → Q (.bl true) H'
theorem ok_is_table {f : Addr} {fd : FuncData} (F : Fun K "is_table" "is_table" s_is_table f fd) (T : Tx mg) (C_is_sequence : Cl P w K mg base CX0 1 "is_sequence" ["value"] (spIsSeq K) [])
    (C_is_below : Cl P w K mg base CX0 3 "is_below" ["value", "most"] spIsBelow []) : FnOk P w K mg base CX0 4 f fd ["value", "states"] spIsTab := by
  refine F.ok c_is_table (fun vs H Q E h => ?_) (fun cdv A outer s H vs Q E hr h => ?_)
  · obtain ⟨a, row, n, rfl, _⟩ := h
    rfl
  obtain ⟨a, row, n, rfl, hL, hl, h8, hlt, q⟩ := h
  refine ⟨_, pss_one (ps_ret (pe_and (pe_cl C_is_sequence (hr.mono (by decide)) pass0 rfl (pa_cons (pv 0) (pa_nil))) (pe_and (pe_cmpR op_eq (pe_callB (id := "len") (r := rLenOf K) call_len_seq (by rfl) T.n_len (by decide +kernel) (pa_cons (pv 0) (pa_nil))) (pv 1) (nomark _)) (pe_one (pe_callB (id := "all") (r := rAll K) (cr_all rfl) (by rfl) T.n_all (by decide +kernel) (pa_cons (pe_lc (own := [("state", 2)]) (g := gName 2) (tt := tYes) rfl c_is_table.nd (pi_tupK K (pv 0)) (blkOk_by (by kernel_rfl)) (fun _ _ _ _ _ => pg_name (i := 2) c_is_table.nd rfl (by first | exact Or.inl rfl | exact Or.inr rfl)) (fun _ _ _ _ _ => pts_nil) (fun _ _ _ _ _ => pe_cl C_is_below (hr.mono (by decide)) pass0 rfl (pa_cons (pv 2) (pa_cons (pv 1) (pa_nil))))) (pa_nil))))))), ?_⟩
  refine ⟨_, rfl, .ref a, rfl, .inr (.base (.tup hL)), fun H1 s1 => ⟨true, rfl, iteT ?_⟩⟩
  have hL1 := hL.same s1
  refine ⟨_, rfl, _, _, rfl, .inr (TN.sq hL1), _, rfl, rfl, _, rfl, iteTb (by rw [nVs_len, hl]; simp) ?_⟩
  refine ⟨_, rfl, a, rfl, ⟨_, TN.sq hL1⟩, fun D hD => lcE_tup (E := E0') (J := fun _ => True) (R := fun _ y _ => y = .bl true) hD (fun z => z) ?_ trivial (fun _ _ _ => trivial) (fun H2 s2 _ => TN.sq (hL1.same s2.same)) (fun _ _ _ _ _ _ e _ => e) ?_ ?_⟩
  · rw [nVs_len]; exact small8 (by omega)
  · intro i x H2 k hx s2 _ _ kk
    obtain ⟨m, hn, rfl⟩ := nVs_back hx
    have h6 := hlt m (List.mem_of_getElem? hn)
    refine ⟨rfl, _, rfl, _, rfl, _, _, rfl, ?_⟩
    refine kk _ _ .refl trivial ?_
    rw [decide_eq_true (by omega)]
  · intro H2 ys s2 _ hy ly ry
    rw [nVs_len] at ly
    have ey : ys = (List.replicate row.length true).map V.bl := by rw [all_rep ly ry, List.map_replicate]
    refine ⟨_, _, rfl, SqL.of (by rw [hy, ey]), ?_⟩
    rw [all_true]
    exact q _ (s1.trans s2.same)
def spTabs : Sp := fun vs H Q _ => ∃ (a : Addr) (ts : List (List Nat)) (n : Nat), vs = [.ref a] ∧ TT2 H a ts ∧ TbOk ts n ∧ ∀ H' p, Same H H' → TT2 H' p ts → Q (.ref p) H'
theorem ok_check_tables {f : Addr} {fd : FuncData} (F : Fun K "check_tables" "check_tables" s_check_tables f fd) (T : Tx mg) (C_is_sequence : Cl P w K mg base CX0 1 "is_sequence" ["value"] (spIsSeq K) [])
    (C_is_table : Cl P w K mg base CX0 4 "is_table" ["value", "states"] spIsTab []) : FnOk P w K mg base CX0 5 f fd ["value"] spTabs := by
  refine F.ok c_check_tables (fun vs H Q E h => ?_) (fun cdv A outer s H vs Q E hr h => ?_)
  · obtain ⟨a, row, n, rfl, _⟩ := h
    rfl
  obtain ⟨a, ts, n, rfl, hT, ok, q⟩ := h
  refine ⟨_, pss_cons (ps_if (PW.pt (pw_or (pt_not (pt_val (pe_cl C_is_sequence (hr.mono (by decide)) pass0 rfl (pa_cons (pv 0) (pa_nil))))) (pw_or1 (pt_not (pt_chain op_le op_le (pe_int) (pe_callB (id := "len") (r := rLenOf K) call_len_seq (by rfl) T.n_len (by decide +kernel) (pa_cons (pv 0) (pa_nil))) (pe_const rfl T.k_MOST_DEEDS)))))) (pss_one (ps_never))
    (pss_nil))
  (pss_cons (ps_set (i := 1) c_check_tables.nd rfl (Or.inl rfl) (pe_ifExp (pt_val (pe_cl C_is_sequence (hr.mono (by decide)) pass0 rfl (pa_cons (pe_ix (r := rIxT K) ix_tup (pv 0) (pe_int) (fun _ _ => rfl)) (pa_nil)))) (pe_callB (id := "len") (r := rLenOf K) call_len_seq (by rfl) T.n_len (by decide +kernel) (pa_cons (pe_ix (r := rIxT K) ix_tup (pv 0) (pe_int) (fun _ _ => rfl)) (pa_nil))) (pe_int)))
  (pss_cons (ps_for PassesOwn.never rfl (pi_enumA (by rfl) T.n_enumerate (pa_cons (pv 0) (pa_nil))) (pg_tup rfl (pgs_cons (pg_name (i := 2) c_check_tables.nd rfl (Or.inl rfl)) (pgs_cons (pg_name (i := 3) c_check_tables.nd rfl (by first | exact Or.inl rfl | exact Or.inr rfl)) (pgs_nil))))
    (pss_one (ps_if (PW.pt (pw_or (pt_not (pt_chain op_le op_le (pe_int) (pv 1) (pe_const rfl T.k_MOST_STATES))) (pw_or1 (pt_not (pt_val (pe_cl C_is_table (hr.mono (by decide)) pass0 rfl (pa_cons (pv 3) (pa_cons (pv 1) (pa_nil))))))))) (pss_one (ps_never))
    (pss_nil))))
  (pss_one (ps_ret (pe_callTy (T := "tuple") (r := rTupOf K) call_tuple_of (by rfl) T.n_tuple (by decide +kernel) (pa_cons (pe_lc (own := [("table", 3)]) (g := gName 3) (tt := tYes) rfl c_check_tables.nd (pi_tupK K (pv 0)) (blkOk_by (by kernel_rfl)) (fun _ _ _ _ _ => pg_name (i := 3) c_check_tables.nd rfl (by first | exact Or.inl rfl | exact Or.inr rfl)) (fun _ _ _ _ _ => pts_nil) (fun _ _ _ _ _ => pe_callTy (T := "tuple") (r := rTupOf K) call_tuple_of (by rfl) T.n_tuple (by decide +kernel) (pa_cons (pv 3) (pa_nil)))) (pa_nil))))))), ?_⟩
  obtain ⟨as, ha, hp⟩ := id hT
  have hl : as.length = ts.length := Paired.length hp
  refine ⟨_, rfl, .ref a, rfl, .inr (.base (.tup ha)), fun H1 s1 => ⟨true, rfl, iteF ?_⟩⟩
  obtain ⟨as1, ha1, hp1⟩ : ∃ as1, as1 = as ∧ True := ⟨as, rfl, trivial⟩
  have ha1 := s1 _ _ ha
  have hp1 : Paired (TN H1) as ts := Paired.mapP hp fun _ _ z => TN.same z s1
  have h4 := ok.four
  have h1 := ok.one
  refine ⟨_, rfl, _, _, rfl, .inr (SqT.of ha1), _, _, rfl, rfl, _, rfl, iteDT ?_ ⟨_, _, rfl, rfl, _, rfl, iteNT ?_ ?_⟩⟩
  · rw [List.length_map, hl]; omega
  · rw [List.length_map, hl]; omega
  obtain ⟨row0, hr0⟩ := get_lt (show 0 < ts.length by omega)
  obtain ⟨a0, ha0, ht0⟩ := paired_at hp1 hr0
  have l0 := ok.len row0 (List.mem_of_getElem? hr0)
  refine ⟨_, rfl, _, _, _, _, rfl, rfl, SqT.of ha1, atI_nat (j := 0) (refs_at ha0), ?_⟩
  refine ⟨.ref a0, rfl, .inr (.base (.tup ht0)), fun H2 s2 => ⟨true, rfl, iteT ?_⟩⟩
  refine ⟨_, rfl, _, _, _, _, rfl, rfl, SqT.of (s2 _ _ ha1), atI_nat (j := 0) (refs_at ha0), _, _, rfl, .inr (TN.sq (ht0.same s2)), ?_⟩
  rw [nVs_len, l0]
  refine ⟨_, rfl, a, _, rfl, .inr ⟨SqT.of (s2 _ _ ha1), ?_⟩⟩
  refine for_it (n := ts.length) (fun i σ H4 => ∃ v2 v3, σ = [some (.ref a), some (nV n), v2, v3] ∧ Same H2 H4) ⟨none, none, rfl, Same.refl _⟩ (fun i σ H4 hi p => ?_) (fun σ H4 p => ?_) (fun i x σ H4 H5 hi p y => ?_) (fun σ H4 p => ?_)
  · obtain ⟨_, _, _, s4⟩ := p
    obtain ⟨b, hb⟩ := get_lt (show i < as.length by omega)
    exact ⟨_, _, SqT.of (s4 _ _ (s2 _ _ ha1)), refs_at hb⟩
  · obtain ⟨_, _, _, s4⟩ := p
    exact ⟨_, SqT.of (s4 _ _ (s2 _ _ ha1)), by rw [List.length_map, hl]⟩
  · obtain ⟨v2, v3, rfl, s4⟩ := p
    obtain ⟨T', x', rfl, nT, rfl, hx⟩ := y
    obtain ⟨row, hrow⟩ := get_lt hi
    obtain ⟨b, hb, htb⟩ := paired_at hp1 hrow
    have ex := hx _ (SqT.of (s4 _ _ (s2 _ _ ha1)))
    rw [refs_at hb] at ex
    cases ex
    have s5 : Same H2 (upd H4 T' (.tup [.int (i : Nat), .ref b])) := s4.trans (Same.upd nT)
    have hm := List.mem_of_getElem? hrow
    refine ⟨T', _, rfl, SqT.of upd_same, rfl, _, _, rfl, _, _, rfl, rfl, ?_⟩
    refine ⟨_, rfl, _, _, rfl, rfl, _, rfl, iteDT (by have := ok.n1; omega) ⟨_, _, rfl, rfl, _, rfl, iteNT (by have := ok.n8; omega) ?_⟩⟩
    refine ⟨_, rfl, _, rfl, b, row, n, rfl, (htb.same s2).same s5, ok.len row hm, ok.n8, ok.lt row hm, fun H6 s6 => ⟨true, rfl, iteF ?_⟩⟩
    exact ⟨_, _, rfl, s5.trans s6⟩
  · obtain ⟨_, _, rfl, s4⟩ := p
    have ha4 := s4 _ _ (s2 _ _ ha1)
    refine ⟨_, rfl, a, rfl, ⟨_, SqT.of ha4⟩, fun D hD => lcE_tup (E := E0') (J := fun _ => True) (R := fun i y _ => (as.map V.ref)[i]? = some y) hD (fun z => z) ?_ trivial (fun _ _ _ => trivial) (fun H5 s5 _ => SqT.of (s5.same _ _ ha4)) (fun _ _ _ _ _ _ e _ => e) ?_ ?_⟩
    · rw [List.length_map, hl]; exact small8 (by omega)
    · intro i x H5 kk hx s5 _ _ fin
      obtain ⟨b, hb, rfl⟩ := refs_back hx
      obtain ⟨row, hrow, htb⟩ := paired_at' hp1 hb
      exact ⟨rfl, _, rfl, b, _, rfl, .inr ⟨TN.sq (((htb.same s2).same s4).same s5.same), fin _ _ .refl trivial hx⟩⟩
    · intro H5 ys s5 _ hy ly ry
      have ey : ys = as.map V.ref := by
        apply List.ext_getElem?
        intro j
        by_cases hj : j < ys.length
        · obtain ⟨y, e⟩ := get_lt hj
          rw [e, ry j y e]
        · rw [List.getElem?_eq_none (by omega), List.getElem?_eq_none (by omega)]
      refine ⟨D, ys, rfl, .inl ⟨SqL.of hy, fun p np => ?_⟩⟩
      have s6 : Same H5 (upd H5 p (.tup ys)) := Same.upd np
      refine q _ p ((((s1.trans s2).trans s4).trans s5.same).trans s6) ⟨as, by rw [upd_same, ey], Paired.mapP hp1 fun _ _ z => (((TN.same z s2).same s4).same s5.same).same s6⟩
end
end Ow

/-! ## W7 -/
set_option Elab.async false
set_option linter.all false
set_option maxRecDepth 100000
set_option maxHeartbeats 4000000
/-! Machine made; need_state; reached; moves_of -/
namespace Ow
open PySem PySem.Spec PyProof.Rows L2
theorem TT2.x {H H' : Hp} {a x : Addr} {ts : List (List Nat)} (h : TT2 H a ts) (s : SameX x H H') (hx : ∀ xs, H x ≠ some (.tup xs)) : TT2 H' a ts := by
  obtain ⟨as, h1, h2⟩ := h
  exact ⟨as, s _ _ (fun z => hx _ (by rw [← z]; exact h1)) h1, Paired.mapP h2 fun _ _ z => TN.x z s hx⟩
theorem putF_ne {f g : Str} {v y : V} {r : List (Str × V)} (h : g ≠ f) (hr : putF f v r = [(f, v)]) : putF f v ((g, y) :: r) = [(g, y), (f, v)] := by
  unfold putF
  rw [if_neg h, hr]
section
variable {P : Program} {w : World} {K : PySem.W.Frag} {mg : Str → Option Value} {base : Heap} {cC cM cT : Addr}
def spMa (cM : Addr) : Sp := fun vs H Q _ => ∃ (x dx a : Addr) (ts : List (List Nat)) (n : Nat), vs = [.ref x, .ref a] ∧ H x = some (.ins cM dx []) ∧ TT2 H a ts ∧ TbOk ts n ∧ ∀ H', SameX x H H' → MaAt cM H' x ts n → Q .non H'
theorem ok_Machine {f : Addr} {fd : FuncData} (F : Fun K "__init__" "Machine.__init__" s_Machine f fd) (T : Tx mg) (k : Kl K cC cM cT) (C_check_tables : Cl P w K mg base CX0 5 "check_tables" ["value"] spTabs []) : FnOk P w K mg base CX0 6 f fd ["self", "tables"] (spMa cM) := by
  refine F.ok c_Machine (fun vs H Q E h => ?_) (fun cdv A outer s H vs Q E hr h => ?_)
  · obtain ⟨x, dx, a, ts, n, rfl, _⟩ := h
    rfl
  obtain ⟨x, dx, a, ts, n, rfl, hx, hT, ok, q⟩ := h
  refine ⟨_, pss_cons (ps_fld (pv 0) (pe_cl C_check_tables (hr.mono (by decide)) pass0 rfl (pa_cons (pv 1) (pa_nil))) rfl)
  (pss_cons (ps_fld (pv 0) (pe_callB (id := "len") (r := rLenOf K) call_len_seq (by rfl) T.n_len (by decide +kernel) (pa_cons (pe_fld (pv 0) rfl) (pa_nil))) rfl)
  (pss_one (ps_fld (pv 0) (pe_callB (id := "len") (r := rLenOf K) call_len_seq (by rfl) T.n_len (by decide +kernel) (pa_cons (pe_ix (r := rIxT K) ix_tup (pe_fld (pv 0) rfl) (pe_int) (fun _ _ => rfl)) (pa_nil))) rfl))), ?_⟩
  refine ⟨_, rfl, a, ts, n, rfl, hT, ok, fun H1 p s1 e1 => ?_⟩
  have hx1 := s1 _ _ hx
  refine ⟨_, rfl, x, cM, dx, [], rfl, hx1, k.ma, k.ma1, by decide, ?_⟩
  have w2 : SameX x H1 (upd H1 x (.ins cM dx [("tables", .ref p)])) := SmE.updE .refl rfl
  have nt1 : ∀ xs, H1 x ≠ some (.tup xs) := fun xs z => by rw [hx1] at z; cases z
  have e2 := e1.x w2 nt1
  have hx2 : (upd H1 x (.ins cM dx [("tables", .ref p)])) x = some (.ins cM dx [("tables", .ref p)]) := upd_same
  show tSeq _ _ _ _ (upd H1 x (.ins cM dx [("tables", .ref p)]))
  generalize upd H1 x (.ins cM dx [("tables", .ref p)]) = H2 at w2 e2 hx2 ⊢
  obtain ⟨as, ha, hp⟩ := id e2
  have hl : as.length = ts.length := Paired.length hp
  refine ⟨_, rfl, _, _, _, _, _, rfl, hx2, k.ma, k.ma1, rfl, _, _, rfl, .inr (SqT.of ha), _, rfl, x, cM, dx, _, rfl, hx2, k.ma, k.ma2, by show 1 < 1000; decide, ?_⟩
  rw [List.length_map, hl]
  have nt2 : ∀ xs, H2 x ≠ some (.tup xs) := fun xs z => by rw [hx2] at z; cases z
  have w3 : SameX x H2 (upd H2 x (.ins cM dx [("tables", .ref p), ("deeds", nV ts.length)])) := SmE.updE .refl rfl
  have e3 := e2.x w3 nt2
  have hx3 : (upd H2 x (.ins cM dx [("tables", .ref p), ("deeds", nV ts.length)])) x = some (.ins cM dx [("tables", .ref p), ("deeds", nV ts.length)]) := upd_same
  rw [putF_ne (by decide) (by rfl)]
  generalize upd H2 x (.ins cM dx [("tables", .ref p), ("deeds", nV ts.length)]) = H3 at w3 e3 hx3 ⊢
  obtain ⟨as3, ha3, hp3⟩ := id e3
  obtain ⟨row0, hr0⟩ := get_lt (show 0 < ts.length by have := ok.one; omega)
  obtain ⟨a0, ha0, ht0⟩ := paired_at hp3 hr0
  refine ⟨_, rfl, _, _, _, _, _, rfl, hx3, k.ma, k.ma1, rfl, _, _, _, _, rfl, rfl, SqT.of ha3, atI_nat (j := 0) (refs_at ha0), _, _, rfl, .inr (TN.sq ht0), _, rfl, x, cM, dx, _, rfl, hx3, k.ma, k.ma3, by show 2 < 1000; decide, ?_⟩
  rw [nVs_len, ok.len row0 (List.mem_of_getElem? hr0)]
  have nt3 : ∀ xs, H3 x ≠ some (.tup xs) := fun xs z => by rw [hx3] at z; cases z
  have w4 : SameX x H3 (upd H3 x (.ins cM dx [("tables", .ref p), ("deeds", nV ts.length), ("states", nV n)])) := SmE.updE .refl rfl
  exact q _ ((((SmE.of s1).trans w2).trans w3).trans w4) ⟨dx, p, upd_same, e3.x w4 nt3⟩
theorem make_ma {H : Hp} {a : Addr} {ts : List (List Nat)} {n : Nat} {R : VK} {E : XK} (hT : TT2 H a ts) (ok : TbOk ts n) (x dx : Addr) (nx : H x = none) (ndx : H dx = none) (ne : dx ≠ x) (q : ∀ H', Same H H' → MaAt cM H' x ts n → R .non H') :
    spMa cM [.ref x, .ref a] (upd (upd H dx (.own x)) x (.ins cM dx [])) R E := by
  have s1 : Same H (upd (upd H dx (.own x)) x (.ins cM dx [])) := fun c o e => by
    rw [upd_ne (ne_of_none e nx), upd_ne (ne_of_none e ndx)]
    exact e
  exact ⟨x, dx, a, ts, n, rfl, upd_same, hT.same s1, ok, fun H' w' c' => q H' (fun c o e => w' c o (ne_of_none e nx) (s1 c o e)) c'⟩
def spNeedSt (cM : Addr) : Sp := fun vs H Q _ => ∃ (m : Addr) (ts : List (List Nat)) (n s : Nat), vs = [.ref m, nV s] ∧ MaAt cM H m ts n ∧ s < n ∧ Q (nV s) H
theorem ok_need_state {f : Addr} {fd : FuncData} (F : Fun K "need_state" "need_state" s_need_state f fd) (k : Kl K cC cM cT) (C_is_below : Cl P w K mg base CX0 3 "is_below" ["value", "most"] spIsBelow []) : FnOk P w K mg base CX0 4 f fd ["machine", "state"] (spNeedSt cM) := by
  refine F.ok c_need_state (fun vs H Q E h => ?_) (fun cdv A outer s H vs Q E hr h => ?_)
  · obtain ⟨m, ts, n, s, rfl, _⟩ := h
    rfl
  obtain ⟨m, ts, n, s', rfl, ⟨dx, a, hx, hT⟩, hs, q⟩ := h
  refine ⟨_, pss_cons (ps_if (pt_not (pt_val (pe_cl C_is_below (hr.mono (by decide)) pass0 rfl (pa_cons (pv 1) (pa_cons (pe_fld (pv 0) rfl) (pa_nil)))))) (pss_one (ps_never))
    (pss_nil))
  (pss_one (ps_ret (pv 1))), ?_⟩
  refine ⟨_, rfl, _, rfl, _, _, _, _, _, rfl, hx, k.ma, k.ma3, rfl, _, _, rfl, _, rfl, iteFb ?_ ⟨_, rfl, q⟩⟩
  rw [decide_eq_true (by omega)]
  rfl
end
end Ow

/-! ## W8 -/
set_option Elab.async false
set_option linter.all false
set_option maxRecDepth 100000
set_option maxHeartbeats 4000000
/-! reached -/
namespace Ow
open PySem PySem.Spec PyProof.Rows L2
def kN (s : Nat) : L2.Key := Sum.inl (s : Int)
theorem kN_inj {a b : Nat} (h : kN a = kN b) : a = b := by
  have h' : (Sum.inl (a : Int) : L2.Key) = Sum.inl (b : Int) := h
  injection h' with h'
  omega
def kvsOf (fk : List Nat) : List (L2.Key × V) := fk.map fun s => (kN s, V.bl true)
theorem valV_kN {f : Nat → V} : ∀ (fk : List Nat) (s : Nat), valV (fk.map fun s => (kN s, f s)) (kN s) = if s ∈ fk then some (f s) else none
  | [], s => by simp [valV]
  | x :: fk, s => by
    have ih := valV_kN (f := f) fk s
    unfold valV at ih ⊢
    rw [List.map_cons, List.find?_cons]
    by_cases h : x = s
    · subst h
      simp
    · have h1 : decide (kN x = kN s) = false := decide_eq_false fun z => h (kN_inj z)
      have h2 : ¬ s = x := fun z => h z.symm
      simp only [h1]
      rw [ih]
      simp [h2]
theorem val_kvs (fk : List Nat) (s : Nat) : (valV (kvsOf fk) (kN s)).isSome = decide (s ∈ fk) := by
  unfold kvsOf
  rw [valV_kN (f := fun _ => V.bl true)]
  by_cases h : s ∈ fk <;> simp [h]
theorem any_kvs (fk : List Nat) (s : Nat) : ((kvsOf fk).any fun kv => decide (kv.1 = kN s)) = decide (s ∈ fk) := by
  induction fk with
  | nil => rfl
  | cons x fk ih =>
    unfold kvsOf at ih ⊢
    rw [List.map_cons, List.any_cons, ih]
    by_cases h : x = s
    · subst h
      simp
    · have h1 : decide (kN x = kN s) = false := decide_eq_false fun z => h (kN_inj z)
      have h2 : ¬ s = x := fun z => h z.symm
      simp [h1, h2]
theorem put_kvs {fk : List Nat} {s : Nat} (h : s ∉ fk) : putK (kvsOf fk) (kN s) (V.bl true) = kvsOf (fk ++ [s]) := by
  unfold putK
  rw [any_kvs, decide_eq_false h]
  simp [kvsOf]
section
variable {P : Program} {w : World} {K : PySem.W.Frag} {mg : Str → Option Value} {base : Heap} {cC cM cT : Addr}
def spReached (cM : Addr) : Sp := fun vs H Q _ => ∃ (m : Addr) (ts : List (List Nat)) (n first : Nat), vs = [.ref m, nV first] ∧ MaAt cM H m ts n ∧ TbOk ts n ∧ first < n ∧ ∀ H' p sts, Same H H' → TN H' p sts → Clo ts first n sts → Q (.ref p) H'
theorem ok_reached {f : Addr} {fd : FuncData} (F : Fun K "reached" "reached" s_reached f fd) (T : Tx mg) (k : Kl K cC cM cT) (C_need_state : Cl P w K mg base CX0 4 "need_state" ["machine", "state"] (spNeedSt cM) []) : FnOk P w K mg base CX0 5 f fd ["machine", "first"] (spReached cM) := by
  refine F.ok c_reached (fun vs H Q E h => ?_) (fun cdv A outer s H vs Q E hr h => ?_)
  · obtain ⟨m, ts, n, s, rfl, _⟩ := h
    rfl
  obtain ⟨m, ts, n, first, rfl, ma, ok, hf, q⟩ := h
  refine ⟨_, pss_cons (ps_set (i := 2) c_reached.nd rfl (Or.inl rfl) (pe_disp (pps_cons (pe_cl C_need_state (hr.mono (by decide)) pass0 rfl (pa_cons (pv 0) (pa_cons (pv 1) (pa_nil)))) (pe_bl) pps_nil) (by rfl) (by rfl) (fun z => by cases z) (by decide)))
  (pss_cons (ps_set (i := 3) c_reached.nd rfl (Or.inl rfl) (pe_lst (pa_cons (pv 1) (pa_nil))))
  (pss_cons (ps_while PassesOwn.never (pt_cmpR op_gt (pe_callB (id := "len") (r := rLenOf K) call_len_seq (by rfl) T.n_len (by decide +kernel) (pa_cons (pv 3) (pa_nil))) (pe_int) (nomark _)) (pss_cons (ps_set (i := 4) c_reached.nd rfl (Or.inl rfl) (pe_bm0 PySem.F.plainAttrs_list PySem.F.slot_list_pop PySem.F.type_list_pop mt_pop (pv 3)))
  (pss_one (ps_for PassesOwn.never rfl (pi_tupK K (pe_fld (pv 0) rfl)) (pg_name (i := 5) c_reached.nd rfl (Or.inl rfl))
    (pss_one (ps_if (pt_cmp (pc_dnotin (hu_of hr) (pe_ix (r := rIxT K) ix_tup (pv 5) (pv 4) (fun _ _ => rfl)) (pv 2))) (pss_cons (ps_dput (hu_of hr) (pv 2) (pe_ix (r := rIxT K) ix_tup (pv 5) (pv 4) (fun _ _ => rfl)) (pe_bl) rfl)
  (pss_one (ps_expr (pe_bm PySem.F.plainAttrs_list PySem.F.slot_list_append PySem.F.type_list_append mt_append (pv 3) (pa_cons (pe_ix (r := rIxT K) ix_tup (pv 5) (pv 4) (fun _ _ => rfl)) (pa_nil))))))
    (pss_nil)))))))
  (pss_one (ps_ret (pe_callTy (T := "tuple") (r := rTupOf K) call_tuple_of (by rfl) T.n_tuple (by decide +kernel) (pa_cons (pe_callB (id := "sorted") (r := rSortedI K) cr_sortedI (by rfl) T.n_sorted (by decide +kernel) (pa_cons (pe_callTy (T := "list") (r := rListD) (call_list_dK rfl) (by rfl) T.n_list (by decide +kernel) (pa_cons (pv 2) (pa_nil))) (pa_nil))) (pa_nil))))))), ?_⟩
  refine fun d nd => ?_
  have s1 : Same H (upd H d (.dK [])) := Same.upd nd
  refine ⟨_, rfl, _, rfl, m, ts, n, first, rfl, ma.same s1, hf, upd_same, [(kN first, .bl true)], rfl, by show 1 ≤ 15; decide, ?_⟩
  have s2 : Same H (upd (upd H d (.dK [])) d (.dK (kvsOf [first]))) := Same.updR s1 nd
  have hd2 : (upd (upd H d (.dK [])) d (.dK (kvsOf [first]))) d = some (.dK (kvsOf [first])) := upd_same
  show tSeq _ _ _ _ (upd (upd H d (.dK [])) d (.dK (kvsOf [first])))
  generalize upd (upd H d (.dK [])) d (.dK (kvsOf [first])) = H2 at s2 hd2 ⊢
  refine ⟨_, rfl, by show 1 ≤ sizeLine; decide, fun l nl => ?_⟩
  have ndl : d ≠ l := ne_of_none hd2 nl
  have nlH : H l = none := s2.free nl
  refine ⟨fun M σ H' => ∃ fk wt v4 v5, σ = [some (.ref m), some (nV first), some (.ref d), some (.ref l), v4, v5] ∧ Same H H' ∧ H' d = some (.dK (kvsOf fk)) ∧ LN H' l wt ∧ RI ts first n fk wt ∧ wt.length + 2 * (n - fk.length) ≤ 2 * n ∧ M = wt.length + 2 * (n - fk.length), ⟨_, [first], [first], none, none, rfl, Same.updR s2 nlH, by rw [upd_ne ndl]; exact hd2, upd_same, RI.start hf, by show 1 + 2 * (n - 1) ≤ 2 * n; omega, rfl⟩, ?_⟩
  rintro M σ H3 ⟨fk, wt, v4, v5, rfl, s3, hd3, hl3, R, hM, rfl⟩
  refine ⟨_, rfl, _, _, rfl, .inl (LN.sq hl3), _, _, rfl, rfl, _, rfl, ?_⟩
  rw [nVs_len]
  by_cases hw : wt = []
  · subst hw
    refine iteDF (by simp) ?_
    have hc := R.clo
    refine ⟨_, rfl, d, _, rfl, hd3, fun a na => ?_⟩
    have s4 : Same H3 (upd H3 a (.lst ((kvsOf fk).map fun kv => kV kv.1))) := Same.upd na
    have e4 : (kvsOf fk).map (fun kv => kV kv.1) = (fk.map fun s : Nat => (s : Int)).map V.int := by
      unfold kvsOf
      rw [List.map_map, List.map_map]
      rfl
    refine ⟨a, fk.map fun s : Nat => (s : Int), rfl, SqL.of (by rw [upd_same, e4]), fun ns' p' pm _ np => ?_⟩
    obtain ⟨sts, hs, es⟩ : ∃ sts : List Nat, sts.Perm fk ∧ ns' = sts.map fun s : Nat => (s : Int) := by
      refine ⟨ns'.map Int.toNat, ?_, ?_⟩
      · have := pm.map Int.toNat
        rw [List.map_map] at this
        rw [show (Int.toNat ∘ fun s : Nat => (s : Int)) = id from rfl, List.map_id] at this
        exact this
      · rw [List.map_map]
        have : ∀ z ∈ ns', ((Int.toNat z : Nat) : Int) = z := fun z hz => by
          obtain ⟨s, _, rfl⟩ := List.mem_map.mp (pm.mem_iff.mp hz)
          rfl
        calc ns' = ns'.map id := (List.map_id _).symm
          _ = _ := List.map_congr_left fun z hz => (this z hz).symm
    have e5 : ns'.map V.int = nVs sts := by
      rw [es, List.map_map]
      rfl
    refine ⟨p', _, rfl, .inl ⟨SqL.of upd_same, fun a2 na2 => ?_⟩⟩
    refine q _ a2 sts (((s3.trans s4).trans (Same.upd np)).trans (Same.upd na2)) ?_ (hc.perm hs)
    show _ = _
    rw [upd_same, e5]
  · have hpos : 0 < wt.length := List.length_pos_iff.mpr hw
    refine iteDT (by omega) ⟨_, fun σ' H' h => h, ?_⟩
    obtain ⟨here, hh⟩ := get_lt (show wt.length - 1 < wt.length by omega)
    have hH : here < n := R.lt here (R.sub here (List.mem_of_getElem? hh))
    refine ⟨_, rfl, .inl ⟨rfl, _, LN.sq hl3⟩, l, _, nV here, rfl, rfl, hl3, by rw [nVs_len]; exact nVs_get hh, ?_⟩
    have edl : (nVs wt).dropLast = nVs wt.dropLast := by simp [nVs]
    have R0 := R.pop hh hw
    have nlH3 : ∀ {H' : Hp} {o : HO}, Same H H' → Same H (upd H' l o) := fun s => Same.updR s nlH
    have s4 : Same H (upd H3 l (.lst (nVs wt).dropLast)) := nlH3 s3
    have hl4 : LN (upd H3 l (.lst (nVs wt).dropLast)) l wt.dropLast := by
      show _ = _
      rw [upd_same, edl]
    have hd4 : (upd H3 l (.lst (nVs wt).dropLast)) d = some (.dK (kvsOf fk)) := by rw [upd_ne ndl]; exact hd3
    generalize upd H3 l (.lst (nVs wt).dropLast) = H4 at s4 hl4 hd4 ⊢
    obtain ⟨wl, ewl⟩ : ∃ wl, wl = wt.length := ⟨_, rfl⟩
    obtain ⟨fl, efl⟩ : ∃ fl, fl = fk.length := ⟨_, rfl⟩
    rw [← ewl, ← efl] at R0
    obtain ⟨dx, a, hx, as, ha, hp⟩ := id ma
    have hlen : as.length = ts.length := Paired.length hp
    refine ⟨_, rfl, _, _, _, _, _, rfl, s4 _ _ hx, k.ma, k.ma1, rfl, a, rfl, ⟨_, SqT.of (s4 _ _ ha)⟩, for_tup (xs := as.map V.ref) (fun i σ H' => ∃ fk wt v5, σ = [some (.ref m), some (nV first), some (.ref d), some (.ref l), some (nV here), v5] ∧ Same H H' ∧ H' d = some (.dK (kvsOf fk)) ∧ LN H' l wt ∧
      RF ts first n fk wt here i (wl - 1 + 2 * (n - fl))) ?_ ?_ ?_ ?_⟩
    · exact ⟨fk, wt.dropLast, v5, rfl, s4, hd4, hl4, R0⟩
    · rintro i σ H5 _ ⟨_, _, _, _, s5, _⟩
      exact SqT.of (s5 _ _ ha)
    · rintro i x σ H5 hx5 ⟨fk5, wt5, v5', rfl, s5, hd5, hl5, R5⟩
      obtain ⟨b, hb, rfl⟩ := refs_back hx5
      obtain ⟨row, hrow, htb⟩ := paired_at' hp hb
      have hm := List.mem_of_getElem? hrow
      obtain ⟨tv, htv⟩ := get_lt (show here < row.length by rw [ok.len row hm]; exact hH)
      have etv : row.getD here 0 = tv := getD_of htv
      have htl : tv < n := ok.lt row hm tv (List.mem_of_getElem? htv)
      have dg : DGet H5 d (nV tv) (valV (kvsOf fk5) (kN tv)) := DGet.k (k := kN tv) hd5
      refine ⟨_, rfl, _, rfl, _, _, _, _, rfl, rfl, TN.sq (htb.same s5), atI_nat (nVs_get htv), _, rfl, d, _, rfl, dg, _, rfl, ?_⟩
      rw [val_kvs]
      by_cases hin : tv ∈ fk5
      · refine iteNT hin ?_
        exact ⟨fk5, wt5, _, rfl, s5, hd5, hl5, R5.old hrow (by rw [etv]; exact hin)⟩
      · have hin' : row.getD here 0 ∉ fk5 := by rw [etv]; exact hin
        have R6 := R5.new hrow hin' (by rw [etv]; exact htl)
        rw [etv] at R6
        have l6 := nodup_lt R5.nd R5.lt
        have hz : sizeLine = 16777216 := sizeLine_eq
        have n8 := ok.n8
        have dp : DPut H5 d (nV tv) (.bl true) (upd H5 d (.dK (putK (kvsOf fk5) (kN tv) (.bl true)))) := DPut.k (k := kN tv) hd5 (by unfold kvsOf; rw [List.length_map]; omega)
        rw [put_kvs hin] at dp
        refine iteND hin ⟨_, rfl, _, rfl, _, rfl, _, _, _, _, rfl, rfl, TN.sq (htb.same s5), atI_nat (nVs_get htv), d, _, rfl, dp, ?_⟩
        have ndH : H d = none := nd
        have s6 : Same H (upd H5 d (.dK (kvsOf (fk5 ++ [tv])))) := Same.updR s5 ndH
        have hl6 : LN (upd H5 d (.dK (kvsOf (fk5 ++ [tv])))) l wt5 := by
          show _ = _
          rw [upd_ne ndl.symm]
          exact hl5
        have hd6 : (upd H5 d (.dK (kvsOf (fk5 ++ [tv])))) d = some (.dK (kvsOf (fk5 ++ [tv]))) := upd_same
        generalize upd H5 d (.dK (kvsOf (fk5 ++ [tv]))) = H6 at s6 hl6 hd6 ⊢
        refine ⟨_, rfl, .inl ⟨rfl, _, LN.sq hl6⟩, _, rfl, _, rfl, _, _, _, _, rfl, rfl, TN.sq (htb.same s6), atI_nat (nVs_get htv), l, _, _, rfl, rfl, hl6, ?_, ?_⟩
        · rw [nVs_len]
          have := R6.ms
          simp only [List.length_append, List.length_singleton] at this
          omega
        · refine ⟨fk5 ++ [tv], wt5 ++ [tv], _, rfl, nlH3 s6, by rw [upd_ne ndl]; exact hd6, ?_, R6⟩
          show _ = _
          rw [upd_same]
          simp [nVs]
    · rintro σ H5 ⟨fk5, wt5, v5', rfl, s5, hd5, hl5, R5⟩
      rw [List.length_map, hlen] at R5
      exact ⟨_, by have := R5.ms; omega, fk5, wt5, _, _, rfl, s5, hd5, hl5, R5.end', by have := R5.ms; omega, rfl⟩
end
end Ow

/-! ## W9 -/
set_option Elab.async false
set_option linter.all false
set_option maxRecDepth 100000
set_option maxHeartbeats 4000000
/-! moves_of, need_kept -/
namespace Ow
open PySem PySem.Spec PyProof.Rows L2
abbrev s_need_kept : Stmt := topS 38
theorem c_need_kept : FnScope ["machine", "first", "counters"] ["machine", "first", "counters"] (defScope s_need_kept) := ⟨rfl, rfl, rfl, by decide +kernel, rfl, by decide +kernel, by decide +kernel⟩
abbrev s_Trail : Stmt := inClass (topS 39) 0
theorem c_Trail : FnScope ["self", "moves", "start", "counters", "limit", "most", "showing"] ["self", "moves", "start", "counters", "limit", "most"] (defScope s_Trail) := ⟨rfl, rfl, rfl, by decide +kernel, rfl, by decide +kernel, by decide +kernel⟩
abbrev s_is_within_limit : Stmt := inClass (topS 39) 1
theorem c_is_within_limit : FnScope ["self", "showing", "rows", "turn", "number", "most"] ["self", "showing"] (defScope s_is_within_limit) := ⟨rfl, rfl, rfl, by decide +kernel, rfl, by decide +kernel, by decide +kernel⟩
abbrev s_go_on : Stmt := inClass (topS 39) 2
theorem c_go_on : FnScope ["self", "showing", "place", "found", "deed", "move", "after", "places"] ["self"] (defScope s_go_on) := ⟨rfl, rfl, rfl, by decide +kernel, rfl, by decide +kernel, by decide +kernel⟩
abbrev s_walked : Stmt := topS 40
theorem c_walked : FnScope ["moves", "start", "counters", "limit", "most", "trail"] ["moves", "start", "counters", "limit", "most"] (defScope s_walked) := ⟨rfl, rfl, rfl, by decide +kernel, rfl, by decide +kernel, by decide +kernel⟩
abbrev s_need_finite : Stmt := topS 41
theorem c_need_finite : FnScope ["counters"] ["counters"] (defScope s_need_finite) := ⟨rfl, rfl, rfl, by decide +kernel, rfl, by decide +kernel, by decide +kernel⟩

def mvKvs (sts row : List Nat) : List (L2.Key × V) := sts.map fun s => (kN s, nV (row.getD s 0))
def MvAt (H : Hp) (p : Addr) (ts : List (List Nat)) (sts : List Nat) : Prop := ∃ as : List Addr, H p = some (.lst (as.map V.ref)) ∧ Paired (fun a row => H a = some (.dK (mvKvs sts row))) as ts
theorem MvAt.same {H H' : Hp} {p : Addr} {ts : List (List Nat)} {sts : List Nat} (h : MvAt H p ts sts) (s : Same H H') : MvAt H' p ts sts := by
  obtain ⟨as, h1, h2⟩ := h
  exact ⟨as, s _ _ h1, Paired.mapP h2 fun _ _ z => s _ _ z⟩
theorem valV_mv {sts row : List Nat} {s : Nat} (h : s ∈ sts) : valV (mvKvs sts row) (kN s) = some (nV (row.getD s 0)) := by
  unfold mvKvs
  rw [valV_kN (f := fun s => nV (row.getD s 0)), if_pos h]
theorem any_mv (sts row : List Nat) (s : Nat) : ((mvKvs sts row).any fun kv => decide (kv.1 = kN s)) = decide (s ∈ sts) := by
  induction sts with
  | nil => rfl
  | cons x fk ih =>
    unfold mvKvs at ih ⊢
    rw [List.map_cons, List.any_cons, ih]
    by_cases h : x = s
    · subst h
      simp
    · have h1 : decide (kN x = kN s) = false := decide_eq_false fun z => h (kN_inj z)
      have h2 : ¬ s = x := fun z => h z.symm
      simp [h1, h2]
theorem put_mv {sts row : List Nat} {s : Nat} (h : s ∉ sts) : putK (mvKvs sts row) (kN s) (nV (row.getD s 0)) = mvKvs (sts ++ [s]) row := by
  unfold putK
  rw [any_mv, decide_eq_false h]
  simp [mvKvs]
theorem paired_of {α β : Type} {R : α → β → Prop} : ∀ {xs : List α} {ys : List β}, xs.length = ys.length → (∀ (i : Nat) x y, xs[i]? = some x → ys[i]? = some y → R x y) → Paired R xs ys
  | [], [], _, _ => .nil
  | [], _ :: _, h, _ => by cases h
  | _ :: _, [], h, _ => by cases h
  | x :: xs, y :: ys, h, r => .cons (r 0 x y rfl rfl) (paired_of (Nat.succ.inj h) fun i x y e1 e2 => r (i + 1) x y e1 e2)
/-- a list of references that are given one by one -/
theorem refs_of : ∀ {ys : List V}, (∀ (i : Nat) y, ys[i]? = some y → ∃ a, y = .ref a) → ∃ as : List Addr, ys = as.map V.ref
  | [], _ => ⟨[], rfl⟩
  | y :: ys, h => by
    obtain ⟨a, rfl⟩ := h 0 y rfl
    obtain ⟨as, rfl⟩ := refs_of (ys := ys) fun i y e => h (i + 1) y e
    exact ⟨a :: as, rfl⟩
section
variable {P : Program} {w : World} {K : PySem.W.Frag} {mg : Str → Option Value} {base : Heap} {cC cM cT : Addr}
def spMoves (cM : Addr) : Sp := fun vs H Q _ => ∃ (m : Addr) (ts : List (List Nat)) (n first : Nat), vs = [.ref m, nV first] ∧ MaAt cM H m ts n ∧ TbOk ts n ∧ first < n ∧ ∀ H' p sts, Same H H' → MvAt H' p ts sts → Clo ts first n sts → Q (.ref p) H'
theorem ok_moves_of {f : Addr} {fd : FuncData} (F : Fun K "moves_of" "moves_of" s_moves_of f fd) (T : Tx mg) (k : Kl K cC cM cT) (C_reached : Cl P w K mg base CX0 5 "reached" ["machine", "first"] (spReached cM) []) : FnOk P w K mg base CX0 6 f fd ["machine", "first"] (spMoves cM) := by
  refine F.ok c_moves_of (fun vs H Q E h => ?_) (fun cdv A outer s H vs Q E hr h => ?_)
  · obtain ⟨m, ts, n, s, rfl, _⟩ := h
    rfl
  obtain ⟨m, ts, n, first, rfl, ma, ok, hf, q⟩ := h
  refine ⟨_, pss_cons (ps_set (i := 2) c_moves_of.nd rfl (Or.inr rfl) (pe_cl C_reached (hr.mono (by decide)) pass0 rfl (pa_cons (pv 0) (pa_cons (pv 1) (pa_nil)))))
  (pss_one (ps_ret (pe_lc (own := [("table", 3)]) (g := gName 3) (tt := tYes) rfl c_moves_of.nd (pi_tupK K (pe_fld (pv 0) rfl)) (blkOk_by (by kernel_rfl)) (fun _ _ _ _ _ => pg_name (i := 3) c_moves_of.nd rfl (by first | exact Or.inl rfl | exact Or.inr rfl)) (fun _ _ _ _ _ => pts_nil) (fun _ _ _ _ _ => pe_dc (own := [("state", 4)]) (g := gName 4) (tt := tYes) rfl c_moves_of.nd (pi_tupK K (pv 2)) (blkOk_by (by kernel_rfl)) (fun _ _ _ _ _ => pg_name (i := 4) c_moves_of.nd rfl (by first | exact Or.inl rfl | exact Or.inr rfl)) (fun _ _ _ _ _ => pts_nil) (fun _ _ _ _ _ => pv 4) (fun _ _ _ _ _ => pe_ix (r := rIxT K) ix_tup (pv 3) (pv 4) (fun _ _ => rfl)))))), ?_⟩
  refine ⟨_, rfl, _, rfl, m, ts, n, first, rfl, ma, ok, hf, fun H1 p sts s1 e1 clo => ?_⟩
  obtain ⟨dx, a, hx, as, ha, hp⟩ := ma.same s1
  have hl : as.length = ts.length := Paired.length hp
  have hsl : sts.length ≤ 8 := Nat.le_trans (nodup_lt clo.nd clo.lt) ok.n8
  refine ⟨_, rfl, _, _, _, _, _, rfl, hx, k.ma, k.ma1, rfl, a, rfl, ⟨_, SqT.of ha⟩, fun D hD => lcE_tup (E := E0') (J := fun _ => True) (R := fun i y H' => ∃ b row, y = .ref b ∧ ts[i]? = some row ∧ H' b = some (.dK (mvKvs sts row))) hD (fun z => z) ?_ trivial (fun _ _ _ => trivial)
    (fun H2 s2 _ => SqT.of (s2.same _ _ ha)) (fun i v H2 H3 _ hDl r w3 => ?_) ?_ ?_⟩
  · rw [List.length_map, hl]; exact small8 (by have := ok.four; omega)
  · obtain ⟨b, row, e1, e2, e3⟩ := r
    obtain ⟨ys, hys⟩ := hDl
    exact ⟨b, row, e1, e2, w3 _ _ (fun z => by rcases z with z | z; exact z; rw [z, hys] at e3; cases e3) e3⟩
  · intro i x H2 kk hx2 s2 _ _ fin
    obtain ⟨b, hb, rfl⟩ := refs_back hx2
    obtain ⟨row, hrow, htb⟩ := paired_at' hp hb
    have s2' := s2.same
    refine ⟨rfl, _, rfl, p, rfl, ⟨_, TN.sq (e1.same s2')⟩, fun D2 nD2 => dc_tup (xs := nVs sts) (fun j H' => Same H2 H' ∧ H' D2 = some (.dK (mvKvs (sts.take j) row))) ⟨Same.upd nD2, upd_same⟩ (fun j H' _ p' => TN.sq ((e1.same s2').same p'.1)) ?_ ?_⟩
    · rintro j x H' hx' ⟨s', hD'⟩
      obtain ⟨st, hst, rfl⟩ := nVs_back hx'
      have hst' := clo.lt st (List.mem_of_getElem? hst)
      obtain ⟨tv, htv⟩ := get_lt (show st < row.length by rw [ok.len row (List.mem_of_getElem? hrow)]; exact hst')
      refine ⟨rfl, ?_⟩
      unfold tYes
      dsimp only
      rw [if_pos rfl]
      refine ⟨_, rfl, _, rfl, _, rfl, _, _, _, _, rfl, rfl, TN.sq ((htb.same s2').same s'), atI_nat (nVs_get htv), _, kN st, rfl, hD', ?_, ?_⟩
      · have hz : sizeLine = 16777216 := sizeLine_eq
        unfold mvKvs
        rw [List.length_map, List.length_take]
        omega
      · have hni : st ∉ sts.take j := fun z => by
          obtain ⟨j', hj'⟩ := List.mem_iff_getElem?.mp z
          have hlt : j' < j := by
            have := (List.getElem?_eq_some_iff.mp hj').1
            rw [List.length_take] at this
            omega
          rw [List.getElem?_take_of_lt hlt] at hj'
          have := (List.getElem?_inj (List.getElem?_eq_some_iff.mp hj').1 clo.nd).mp (hj'.trans hst.symm)
          omega
        have et : row.getD st 0 = tv := getD_of htv
        have e := put_mv (row := row) hni
        rw [et] at e
        rw [e]
        refine ⟨Same.updR s' nD2, ?_⟩
        rw [upd_same, List.take_add_one, hst]
        rfl
    · rintro H' ⟨s', hD'⟩
      rw [nVs_len, List.take_length] at hD'
      exact fin _ _ (SmE.of s') trivial ⟨D2, row, rfl, hrow, hD'⟩
  · intro H2 ys s2 _ hy ly ry
    rw [List.length_map, hl] at ly
    obtain ⟨bs, rfl⟩ := refs_of (ys := ys) fun i y e => by
      obtain ⟨b, _, e1, _⟩ := ry i y e
      exact ⟨b, e1⟩
    refine q _ D sts (s1.trans s2.same) ⟨bs, hy, paired_of (by simpa using ly) fun i b row h1 h2 => ?_⟩ clo
    obtain ⟨b', row', e1, e2, e3⟩ := ry i (.ref b) (refs_at h1)
    rw [h2] at e2
    cases e1
    cases e2
    exact e3
def spKept (cC cM : Addr) : Sp := fun vs H Q _ => ∃ (m c : Addr) (ts : List (List Nat)) (n first : Nat) (rs ss : List Nat), vs = [.ref m, nV first, .ref c] ∧ MaAt cM H m ts n ∧ first < n ∧ CoAt cC H c rs ss ∧ rs.length = ts.length ∧ Q .non H
theorem ok_need_kept {f : Addr} {fd : FuncData} (F : Fun K "need_kept" "need_kept" s_need_kept f fd) (C_need_state : Cl P w K mg base CX0 4 "need_state" ["machine", "state"] (spNeedSt cM) [])
    (C_need_fit : Cl P w K mg base CX0 1 "need_fit" ["machine", "counters"] (spFit cC cM) []) : FnOk P w K mg base CX0 5 f fd ["machine", "first", "counters"] (spKept cC cM) := by
  refine F.ok c_need_kept (fun vs H Q E h => ?_) (fun cdv A outer s H vs Q E hr h => ?_)
  · obtain ⟨m, c, ts, n, s, rs, ss, rfl, _⟩ := h
    rfl
  obtain ⟨m, c, ts, n, first, rs, ss, rfl, ma, hf, co, hl, q⟩ := h
  refine ⟨_, pss_cons (ps_expr (pe_cl C_need_state (hr.mono (by decide)) pass0 rfl (pa_cons (pv 0) (pa_cons (pv 1) (pa_nil)))))
  (pss_one (ps_expr (pe_cl C_need_fit (hr.mono (by decide)) pass0 rfl (pa_cons (pv 0) (pa_cons (pv 2) (pa_nil)))))), ?_⟩
  exact ⟨_, rfl, _, rfl, m, ts, n, first, rfl, ma, hf, _, rfl, _, rfl, m, c, rs, ss, ts, n, rfl, ma, co, hl, q⟩
end
end Ow

/-! ## W10 -/
set_option Elab.async false
set_option linter.all false
set_option maxRecDepth 100000
set_option maxHeartbeats 4000000
/-! Trail: made; is_within_limit -/
namespace Ow
open PySem PySem.Spec PyProof.Rows L2
def skey (sh : List Nat) : List L2.Key := sh.map kN
theorem skey_kV (sh : List Nat) : (skey sh).map kV = nVs sh := by
  unfold skey
  rw [List.map_map]
  rfl
theorem skey_inj {a b : List Nat} (h : skey a = skey b) : a = b := by
  induction a generalizing b with
  | nil => cases b with
    | nil => rfl
    | cons y b => cases h
  | cons x a ih => cases b with
    | nil => cases h
    | cons y b =>
      unfold skey at h ih
      rw [List.map_cons, List.map_cons] at h
      injection h with h1 h2
      rw [kN_inj h1, ih h2]
abbrev trF (mv c : Addr) (lv : V) (most : Nat) (r wt : Addr) (dn : Nat) : List (Str × V) := [("moves", .ref mv), ("counters", .ref c), ("limit", lv), ("most", nV most), ("rows", .ref r), ("waiting", .ref wt), ("done", nV dn)]
def TrAt (cT : Addr) (H : Hp) (x mv c : Addr) (lv : V) (most : Nat) (r wt : Addr) (dn : Nat) : Prop := ∃ dx, H x = some (.ins cT dx (trF mv c lv most r wt dn))
/-- the places of one row, each with a tuple that is not too long -/
def PlAt (H : Hp) (d : Addr) (sts : List Nat) (bnd : Nat) : Prop := ∃ es : List (L2.Key × V), H d = some (.dK es) ∧ es.map (·.1) = sts.map kN ∧ ∀ kv ∈ es, ∃ a wd, kv.2 = .ref a ∧ TN H a wd ∧ wd.length ≤ bnd
structure RowsAt (H : Hp) (r : Addr) (l : List Pl) (bnd : Nat) (ks : List (List Nat × Addr)) : Prop where
  at_ : H r = some (.dT (ks.map fun q => (skey q.1, V.ref q.2)))
  nd1 : (ks.map (·.1)).Nodup
  nd2 : (ks.map (·.2)).Nodup
  pl : ∀ q ∈ ks, PlAt H q.2 (stOf l q.1) bnd
  all : ∀ p ∈ l, ∃ d, (p.1, d) ∈ ks
  non : ∀ q ∈ ks, ∃ p ∈ l, p.1 = q.1
def WtAt (H : Hp) (wt : Addr) (l : List Pl) : Prop := ∃ tt : List Addr, H wt = some (.lst (tt.map V.ref)) ∧ Paired (fun t (q : Pl) => ∃ p, H t = some (.tup [.ref p, nV q.2]) ∧ TN H p q.1) tt l
section
variable {P : Program} {w : World} {K : PySem.W.Frag} {mg : Str → Option Value} {base : Heap} {cC cM cT : Addr}
def spTr (cC cT : Addr) : Sp := fun vs H Q _ => ∃ (x dx mv c : Addr) (start most : Nat) (lv : V) (rs ss : List Nat), vs = [.ref x, .ref mv, nV start, .ref c, lv, nV most] ∧ H x = some (.ins cT dx []) ∧ CoAt cC H c rs ss ∧ rs.length ≤ 4 ∧ ss.length = rs.length ∧ 1 ≤ rs.length ∧
  ∀ H' r wt ks, H r = none → H wt = none → (∀ q ∈ ks, H q.2 = none) → SameX x H H' → TrAt cT H' x mv c lv most r wt 0 → RowsAt H' r [(List.replicate rs.length 0, start)] 0 ks → WtAt H' wt [(List.replicate rs.length 0, start)] → Q .non H'
theorem CoAt.x {H H' : Hp} {c x : Addr} {rs ss : List Nat} (h : CoAt cC H c rs ss) (s : SameX x H H') (hc : c ≠ x) (hx : ∀ xs, H x ≠ some (.tup xs)) : CoAt cC H' c rs ss := by
  obtain ⟨dx, a, b, h1, h2, h3⟩ := h
  exact ⟨dx, a, b, s _ _ hc h1, h2.x s hx, h3.x s hx⟩
theorem ok_Trail {f : Addr} {fd : FuncData} (F : Fun K "__init__" "Trail.__init__" s_Trail f fd) (T : Tx mg) (k : Kl K cC cM cT) (C_shown_of : Cl P w K mg base CX0 2 "shown_of" ["counters", "row"] (spShOf K cC) []) : FnOk P w K mg base CX0 3 f fd ["self", "moves", "start", "counters", "limit", "most"] (spTr cC cT) := by
  refine F.ok c_Trail (fun vs H Q E h => ?_) (fun cdv A outer s H vs Q E hr h => ?_)
  · obtain ⟨x, dx, mv, c, start, most, lv, rs, ss, rfl, _⟩ := h
    rfl
  obtain ⟨x, dx, mv, c, start, most, lv, rs, ss, rfl, hx, co, h4, hl, h1, q⟩ := h
  refine ⟨_, pss_cons (ps_fld (pv 0) (pv 1) rfl)
  (pss_cons (ps_fld (pv 0) (pv 3) rfl)
  (pss_cons (ps_fld (pv 0) (pv 4) rfl)
  (pss_cons (ps_fld (pv 0) (pv 5) rfl)
  (pss_cons (ps_set (i := 6) c_Trail.nd rfl (Or.inl rfl) (pe_cl C_shown_of (hr.mono (by decide)) pass0 rfl (pa_cons (pv 3) (pa_cons (pe_tup (pa_nil)) (pa_nil)))))
  (pss_cons (ps_fld (pv 0) (pe_disp1 (hu10_of hr) (pv 6) (pe_disp (pps_cons (pv 2) (pe_tup (pa_nil)) pps_nil) (by rfl) (by rfl) (fun z => by cases z) (by decide))) rfl)
  (pss_cons (ps_fld (pv 0) (pe_lst (pa_cons (pe_tup (pa_cons (pv 6) (pa_cons (pv 2) (pa_nil)))) (pa_nil))) rfl)
  (pss_one (ps_fld (pv 0) (pe_int) rfl)))))))), ?_⟩
  have ncx : c ≠ x := by
    obtain ⟨dc, a, b, hc, _, _⟩ := id co
    exact ne_of hc hx fun z => by cases z
  have nt : ∀ xs, H x ≠ some (.tup xs) := fun xs z => by rw [hx] at z; cases z
  refine ⟨_, rfl, _, rfl, x, cT, dx, [], rfl, hx, k.tr, k.tr1, by decide, ?_⟩
  generalize hg1 : upd H x (.ins cT dx (putF "moves" (.ref mv) [])) = H1
  have x1 : H1 x = some (.ins cT dx [("moves", .ref mv)]) := by rw [← hg1]; exact upd_same
  have w1 : SameX x H H1 := by rw [← hg1]; exact SmE.updE .refl rfl
  refine ⟨_, rfl, _, rfl, x, cT, dx, _, rfl, x1, k.tr, k.tr2, by show 1 < 1000; decide, ?_⟩
  generalize hg2 : upd H1 x _ = H2
  have x2 : H2 x = some (.ins cT dx [("moves", .ref mv), ("counters", .ref c)]) := by rw [← hg2]; exact upd_same
  have w2 : SameX x H H2 := by rw [← hg2]; exact SmE.updE w1 rfl
  refine ⟨_, rfl, _, rfl, x, cT, dx, _, rfl, x2, k.tr, k.tr3, by show 2 < 1000; decide, ?_⟩
  generalize hg3 : upd H2 x _ = H3
  have x3 : H3 x = some (.ins cT dx [("moves", .ref mv), ("counters", .ref c), ("limit", lv)]) := by rw [← hg3]; exact upd_same
  have w3 : SameX x H H3 := by rw [← hg3]; exact SmE.updE w2 rfl
  refine ⟨_, rfl, _, rfl, x, cT, dx, _, rfl, x3, k.tr, k.tr4, by show 3 < 1000; decide, ?_⟩
  generalize hg4 : upd H3 x _ = H4
  have x4 : H4 x = some (.ins cT dx [("moves", .ref mv), ("counters", .ref c), ("limit", lv), ("most", nV most)]) := by rw [← hg4]; exact upd_same
  have w4 : SameX x H H4 := by rw [← hg4]; exact SmE.updE w3 rfl
  clear hg1 hg2 hg3 hg4 x1 x2 x3 w1 w2 w3
  refine ⟨_, rfl, by show 0 ≤ sizeLine; decide, fun e ne => ?_⟩
  have s5 : Same H4 (upd H4 e (.tup [])) := Same.upd ne
  have e5 : TN (upd H4 e (.tup [])) e [] := upd_same
  generalize upd H4 e (.tup []) = H5 at s5 e5
  refine ⟨c, e, rs, ss, rfl, (co.x w4 ncx nt).same s5, e5, h4, hl, h1, fun H6 p s6 e6 => ?_⟩
  have x6 := s6 _ _ (s5 _ _ x4)
  have w6 : SameX x H H6 := w4.trans (SmE.of (s5.trans s6))
  clear s5 s6 e5 w4 x4
  -- rows
  refine fun r nr => ⟨_, rfl, fun d nd => ?_⟩
  refine ⟨_, rfl, by show 0 ≤ sizeLine; decide, fun e2 ne2 => ?_⟩
  have nrx : r ≠ x := fun z => by rw [z, x6] at nr; cases nr
  have frH : ∀ b o, b ≠ x → H b = some o → b ≠ r := fun b o nb hb z => by
    have y := w6 b o nb hb
    rw [z, nr] at y
    cases y
  have nrH : H r = none := by
    cases e : H r with
    | none => rfl
    | some o => exact absurd rfl (frH r o nrx e)
  have s7 : Same H6 (upd H6 r (.dT [])) := Same.upd nr
  have r7 : (upd H6 r (.dT [])) r = some (.dT []) := upd_same
  generalize upd H6 r (.dT []) = H7 at s7 r7 nd ne2 ⊢
  have s8 : Same H7 (upd H7 d (.dK [])) := Same.upd nd
  have d8 : (upd H7 d (.dK [])) d = some (.dK []) := upd_same
  generalize upd H7 d (.dK []) = H8 at s8 d8 ne2 ⊢
  have s9 : Same H8 (upd H8 e2 (.tup [])) := Same.upd ne2
  have t9 : TN (upd H8 e2 (.tup [])) e2 [] := upd_same
  generalize upd H8 e2 (.tup []) = H9 at s9 t9 ⊢
  have d9 := s9 _ _ d8
  have ndH : H d = none := by
    cases e : H d with
    | none => rfl
    | some o =>
      have ndx' : d ≠ x := ne_of d9 (s9 _ _ (s8 _ _ (s7 _ _ x6))) fun z => by cases z
      have y := s7 _ _ (w6 d o ndx' e)
      rw [nd] at y
      cases y
  have r9 := s9 _ _ (s8 _ _ r7)
  have x9 := s9 _ _ (s8 _ _ (s7 _ _ x6))
  have e9 := ((e6.same s7).same s8).same s9
  have ndr : d ≠ r := ne_of d9 r9 fun z => by cases z
  have ndx : d ≠ x := ne_of d9 x9 fun z => by cases z
  refine ⟨d9, [(kN start, .ref e2)], rfl, by show 1 ≤ 15; decide, ?_⟩
  generalize hg : upd H9 d _ = H10
  have d10 : H10 d = some (.dK [(kN start, .ref e2)]) := by rw [← hg]; exact upd_same
  have o10 : ∀ b, b ≠ d → H10 b = H9 b := fun b nb => by rw [← hg]; exact upd_ne nb
  have tup10 : ∀ b xs, H9 b = some (.tup xs) → H10 b = some (.tup xs) := fun b xs e => by rw [o10 b (ne_of e d9 fun z => by cases z)]; exact e
  clear hg
  refine ⟨by rw [o10 r ndr.symm]; exact r9, p, skey (List.replicate rs.length 0), rfl, by rw [skey_kV]; exact tup10 _ _ e9, ?_⟩
  have x10 : H10 x = some (.ins cT dx [("moves", .ref mv), ("counters", .ref c), ("limit", lv), ("most", nV most)]) := by rw [o10 x ndx.symm]; exact x9
  have w10 : SameX x H H10 := fun b o nb hb => by
    have h6 := w6 b o nb hb
    have h9 := s9 _ _ (s8 _ _ (s7 _ _ h6))
    rw [o10 b (fun z => by rw [z] at h6; rw [s7 _ _ h6] at nd; cases nd)]
    exact h9
  have r10 : H10 r = some (.dT []) := by rw [o10 r ndr.symm]; exact r9
  have p10 := tup10 _ _ e9
  have t10 := tup10 _ _ t9
  clear s7 s8 s9 r7 d8 d9 r9 x9 e9 t9 w6 x6 e6
  generalize hg : upd H10 r _ = H11
  have r11 : H11 r = some (.dT [(skey (List.replicate rs.length 0), .ref d)]) := by rw [← hg]; exact upd_same
  have o11 : ∀ b, b ≠ r → H11 b = H10 b := fun b nb => by rw [← hg]; exact upd_ne nb
  have tup11 : ∀ b xs, H10 b = some (.tup xs) → H11 b = some (.tup xs) := fun b xs e => by rw [o11 b (ne_of e r10 fun z => by cases z)]; exact e
  have w11 : SameX x H H11 := fun b o nb hb => by
    have h10 := w10 b o nb hb
    rw [o11 b (frH b o nb hb)]
    exact h10
  have d11 : H11 d = some (.dK [(kN start, .ref e2)]) := by rw [o11 d ndr]; exact d10
  have x11 : H11 x = some (.ins cT dx [("moves", .ref mv), ("counters", .ref c), ("limit", lv), ("most", nV most)]) := by rw [o11 x nrx.symm]; exact x10
  have p11 := tup11 _ _ p10
  have t11 := tup11 _ _ t10
  clear hg tup10 tup11 o10 o11 w10 r10 p10 t10 d10 x10
  refine ⟨_, rfl, x, cT, dx, _, rfl, x11, k.tr, k.tr5, by show 4 < 1000; decide, ?_⟩
  generalize hg : upd H11 x _ = H12
  have x12 : H12 x = some (.ins cT dx [("moves", .ref mv), ("counters", .ref c), ("limit", lv), ("most", nV most), ("rows", .ref r)]) := by rw [← hg]; exact upd_same
  have w12 : SameX x H11 H12 := by rw [← hg]; exact SmE.updE .refl rfl
  clear hg
  refine ⟨_, rfl, _, rfl, by show 2 ≤ sizeLine; decide, fun t nt2 => ⟨by show 1 ≤ sizeLine; decide, fun wt nwt => ?_⟩⟩
  have s13 : Same H12 (upd H12 t (.tup [.ref p, nV start])) := Same.upd nt2
  have t13 : (upd H12 t (.tup [.ref p, nV start])) t = some (.tup [.ref p, nV start]) := upd_same
  generalize upd H12 t (.tup [.ref p, nV start]) = H13 at s13 t13 nwt ⊢
  have nwH : H wt = none := by
    cases e : H wt with
    | none => rfl
    | some o =>
      have nwx : wt ≠ x := fun z => by rw [z, s13 _ _ x12] at nwt; cases nwt
      have y := s13 _ _ (w12 _ _ nwx (w11 wt o nwx e))
      rw [nwt] at y
      cases y
  have s14 : Same H13 (upd H13 wt (.lst [.ref t])) := Same.upd nwt
  have l14 : (upd H13 wt (.lst [.ref t])) wt = some (.lst [.ref t]) := upd_same
  generalize upd H13 wt (.lst [.ref t]) = H14 at s14 l14 ⊢
  have x14 := s14 _ _ (s13 _ _ x12)
  refine ⟨_, rfl, x, cT, dx, _, rfl, x14, k.tr, k.tr6, by show 5 < 1000; decide, ?_⟩
  generalize hg : upd H14 x _ = H15
  have x15 : H15 x = some (.ins cT dx [("moves", .ref mv), ("counters", .ref c), ("limit", lv), ("most", nV most), ("rows", .ref r), ("waiting", .ref wt)]) := by rw [← hg]; exact upd_same
  have w15 : SameX x H14 H15 := by rw [← hg]; exact SmE.updE .refl rfl
  clear hg
  refine ⟨_, rfl, x, cT, dx, _, rfl, x15, k.tr, k.tr7, by show 6 < 1000; decide, ?_⟩
  generalize hg : upd H15 x _ = H16
  have x16 : H16 x = some (.ins cT dx (trF mv c lv most r wt 0)) := by rw [← hg]; exact upd_same
  have w16 : SameX x H11 H16 := by
    have w : SameX x H15 H16 := by rw [← hg]; exact SmE.updE .refl rfl
    exact (((w12.trans (SmE.of s13)).trans (SmE.of s14)).trans w15).trans w
  have w16' : SameX x H14 H16 := by
    have w : SameX x H15 H16 := by rw [← hg]; exact SmE.updE .refl rfl
    exact w15.trans w
  clear hg
  have nxt : ∀ b o, H14 b = some o → (∀ C d f, o ≠ .ins C d f) → b ≠ x := fun b o hb ho z => by rw [z, x14] at hb; exact ho _ _ _ (Option.some.inj hb).symm
  have nx11 : ∀ b o, H11 b = some o → (∀ C d f, o ≠ .ins C d f) → b ≠ x := fun b o hb ho z => by rw [z, x11] at hb; exact ho _ _ _ (Option.some.inj hb).symm
  have p16 : TN H16 p (List.replicate rs.length 0) := w16 _ _ (nx11 _ _ p11 fun _ _ _ z => by cases z) p11
  refine q H16 r wt [(List.replicate rs.length 0, d)] nrH nwH (fun q' hq' => by rw [List.mem_singleton.mp hq']; exact ndH) (w11.trans w16) ⟨dx, x16⟩ ⟨?_, by simp, by simp, fun q' hq' => ?_, fun p' hp' => ?_, fun q' hq' => ?_⟩ ⟨[t], ?_, .cons ⟨p, ?_, p16⟩ .nil⟩
  · exact w16 _ _ (nx11 _ _ r11 fun _ _ _ z => by cases z) r11
  · rw [List.mem_singleton.mp hq']
    refine ⟨[(kN start, .ref e2)], w16 _ _ (nx11 _ _ d11 fun _ _ _ z => by cases z) d11, ?_, fun kv hkv => ?_⟩
    · simp [stOf]
    · rw [List.mem_singleton.mp hkv]
      exact ⟨e2, [], rfl, w16 _ _ (nx11 _ _ t11 fun _ _ _ z => by cases z) t11, Nat.le_refl _⟩
  · rw [List.mem_singleton.mp hp']
    exact ⟨d, List.mem_singleton.mpr rfl⟩
  · rw [List.mem_singleton.mp hq']
    exact ⟨_, List.mem_singleton.mpr rfl, rfl⟩
  · exact w16' _ _ (nxt _ _ l14 fun _ _ _ z => by cases z) l14
  · exact w16' _ _ (nxt _ _ (s14 _ _ t13) fun _ _ _ z => by cases z) (s14 _ _ t13)
def spLim (cC cT : Addr) : Sp := fun vs H Q _ => ∃ (x mv c a r wt : Addr) (most dn : Nat) (lv : V) (lim : Option (List Nat)) (rs ss sh : List Nat), vs = [.ref x, .ref a] ∧ TrAt cT H x mv c lv most r wt dn ∧ CoAt cC H c rs ss ∧ TN H a sh ∧ sh.length = rs.length ∧ 1 ≤ rs.length ∧ rs.length ≤ 4 ∧
  ((lv = .non ∧ lim = none) ∨ ∃ b l, lv = .ref b ∧ lim = some l ∧ TN H b l ∧ l.length = rs.length) ∧ ∀ H', Same H H' → Q (.bl (inLim rs lim sh)) H'
theorem ok_is_within_limit {f : Addr} {fd : FuncData} (F : Fun K "is_within_limit" "Trail.is_within_limit" s_is_within_limit f fd) (T : Tx mg) (k : Kl K cC cM cT) : FnOk P w K mg base CX0 1 f fd ["self", "showing"] (spLim cC cT) := by
  refine F.ok c_is_within_limit (fun vs H Q E h => ?_) (fun cdv A outer s H vs Q E hr h => ?_)
  · obtain ⟨x, mv, c, a, r, wt, most, dn, lv, lim, rs, ss, sh, rfl, _⟩ := h
    rfl
  obtain ⟨x, mv, c, a, r, wt, most, dn, lv, lim, rs, ss, sh, rfl, ⟨dx, hx⟩, co, ha, hsl, h1, h4, hlim, q⟩ := h
  refine ⟨_, pss_cons (ps_if (pt_cmpR op_isN (pe_fld (pv 0) rfl) (pe_non) (nomark _)) (pss_one (ps_ret (pe_bl)))
    (pss_nil))
  (pss_cons (ps_set (i := 2) c_is_within_limit.nd rfl (Or.inl rfl) (pe_listzip rfl (by rfl) T.n_list (by rfl) T.n_zip (pa_cons (pe_fld (pe_fld (pv 0) rfl) rfl) (pa_cons (pv 1) (pa_cons (pe_fld (pv 0) rfl) (pa_nil))))))
  (pss_one (ps_ret (pe_callB (id := "all") (r := rAll K) (cr_all rfl) (by rfl) T.n_all (by decide +kernel) (pa_cons (pe_lc (own := [("turn", 3), ("number", 4), ("most", 5)]) (g := gTup K 3 (gCons (gName 3) (gCons (gName 4) (gCons (gName 5) (gNil))))) (tt := tYes) rfl c_is_within_limit.nd (pi_listK K (pv 2)) (blkOk_by (by kernel_rfl)) (fun _ _ _ _ _ => pg_tup rfl (pgs_cons (pg_name (i := 3) c_is_within_limit.nd rfl (by first | exact Or.inl rfl | exact Or.inr rfl)) (pgs_cons (pg_name (i := 4) c_is_within_limit.nd rfl (by first | exact Or.inl rfl | exact Or.inr rfl)) (pgs_cons (pg_name (i := 5) c_is_within_limit.nd rfl (by first | exact Or.inl rfl | exact Or.inr rfl)) (pgs_nil))))) (fun _ _ _ _ _ => pts_nil) (fun _ _ _ _ _ => pe_or (pe_cmpR op_gt (pv 3) (pe_int) (nomark _)) (pe_one (pe_cmpR op_le (pv 4) (pv 5) (nomark _))))) (pa_nil)))))), ?_⟩
  refine ⟨_, rfl, _, _, _, _, _, rfl, hx, k.tr, k.tr3, rfl, ?_⟩
  rcases hlim with ⟨rfl, rfl⟩ | ⟨b, l, rfl, rfl, hb, hl⟩
  · refine ⟨rfl, _, rfl, iteTb rfl ?_⟩
    exact q H (Same.refl H)
  · refine ⟨rfl, _, rfl, iteFb rfl ?_⟩
    obtain ⟨dc, ac, bc, hc, e1, e2⟩ := co
    refine ⟨_, rfl, _, _, _, _, _, rfl, hx, k.tr, k.tr2, rfl, _, _, _, _, _, rfl, hc, k.co, k.co1, rfl, _, rfl, _, rfl, _, _, _, _, _, rfl, hx, k.tr, k.tr3, rfl, ?_⟩
    refine ⟨ac, a, b, nVs rs, nVs sh, nVs l, rs.length, rfl, TN.sq e1, TN.sq ha, TN.sq hb, nVs_len _, by rw [nVs_len, hsl], by rw [nVs_len, hl], by omega, by omega, fun L tt H2 nL s2 hL htt hat => ?_⟩
    have item : ∀ (i : Nat) x, (tt.map V.ref)[i]? = some x → ∃ t u v z, x = .ref t ∧ H2 t = some (.tup [nV u, nV v, nV z]) ∧ rs[i]? = some u ∧ sh[i]? = some v ∧ l[i]? = some z := fun i x hx => by
      obtain ⟨t, ht, rfl⟩ := refs_back hx
      have hi : i < rs.length := by have := (List.getElem?_eq_some_iff.mp ht).1; omega
      obtain ⟨t', u, v, z, ht', hu, hv, hz, h2⟩ := hat i hi
      rw [ht] at ht'
      cases ht'
      obtain ⟨u', hu', rfl⟩ := nVs_back hu
      obtain ⟨v', hv', rfl⟩ := nVs_back hv
      obtain ⟨z', hz', rfl⟩ := nVs_back hz
      exact ⟨t, u', v', z', rfl, h2, hu', hv', hz'⟩
    refine ⟨_, rfl, L, rfl, ⟨_, SqL.of hL⟩, fun D hD => lcE_list (E := E0') (J := fun _ => True) (R := fun i y _ => y = .bl (decide (0 < rs.getD i 0) || decide (sh.getD i 0 ≤ l.getD i 0))) hD (fun z => z) ?_ trivial (fun _ _ _ => trivial) (fun H3 s3 _ => SqL.of (s3.same _ _ hL)) (fun _ _ _ _ _ _ e _ => e) ?_ ?_⟩
    · rw [List.length_map, htt]; exact small8 (by omega)
    · intro i y H3 kk hy s3 _ _ fin
      obtain ⟨t, u, v, z, rfl, h2, hu, hv, hz⟩ := item i y hy
      refine ⟨t, _, rfl, SqT.of (s3.same _ _ h2), rfl, _, _, rfl, _, _, rfl, _, _, rfl, rfl, rfl, ?_⟩
      refine ⟨_, rfl, _, _, rfl, rfl, decide (0 < u), ?_, ?_⟩
      · show V.bl (decide ((0 : Int) < (u : Nat))) = V.bl (decide (0 < u))
        congr 1
        exact decide_eq_decide.mpr (by omega)
      have fin' := fin (.bl (decide (0 < u) || decide (v ≤ z))) H3 .refl trivial (by rw [getD_of hu, getD_of hv, getD_of hz])
      by_cases h0 : 0 < u
      · refine iteDT h0 ?_
        rw [decide_eq_true h0, Bool.true_or] at fin'
        exact fin'
      · refine iteDF h0 ⟨_, rfl, _, rfl, _, _, rfl, rfl, ?_⟩
        rw [decide_eq_false h0, Bool.false_or] at fin'
        have e : decide (((v : Nat) : Int) ≤ (z : Nat)) = decide (v ≤ z) := decide_eq_decide.mpr (by omega)
        show kk (V.bl (decide (((v : Nat) : Int) ≤ (z : Nat)))) H3
        rw [e]
        exact fin'
    · intro H3 ys s3 _ hy ly ry
      rw [List.length_map, htt] at ly
      have ey := all_items ly ry
      refine ⟨D, (List.range rs.length).map (fun i => decide (0 < rs.getD i 0) || decide (sh.getD i 0 ≤ l.getD i 0)), rfl, SqL.of (by rw [hy, ey, List.map_map]; rfl), ?_⟩
      have e : ((List.range rs.length).map (fun i => decide (0 < rs.getD i 0) || decide (sh.getD i 0 ≤ l.getD i 0))).all id = inLim rs (some l) sh := by
        rw [List.all_map]
        rfl
      rw [e]
      exact q H3 (s2.trans s3.same)
end
end Ow

/-! ## W10b -/
set_option Elab.async false
set_option linter.all false
set_option maxRecDepth 100000
set_option maxHeartbeats 4000000
/-! The two errors that are raised. -/
namespace Ow
open PySem PySem.Spec PyProof.Rows L2
/-- an own error C(F) that may be made by its name -/
structure ClE (P : Program) (w : World) (K : PySem.W.Frag) (mg : Str → Option Value) (base : Heap) (x : Str) (C : Addr) (F : Str) : Prop where
  ex : ∃ (f : Addr) (fd : FuncData), OexC K C ∧ PySem.W.findIn K (.ref C) "__init__" = some (some (.ref f)) ∧ PySem.W.typeIn K (.ref f) = some (.type "function") ∧ FnOk P w K mg base CX0 1 f fd ["self", F] (spSu K C F) ∧ Binds K fd ["self", F] [] ∧ mg x = some (.ref C) ∧ PySem.W.findIn K (.ref C) F = some none
def tErr (C : Addr) (F : Str) (te : TE) : L2.St → Hp → XK → Prop := fun σ H Q => te σ H fun v H1 => ∀ d H', H1 d = none → Same H1 H' → H' d = some (.xd [(F, v)]) → Q (.ref C) (some d) H'
def tMono (te : TE) : TE := fun σ H Q => ∃ Q' : VK, te σ H Q' ∧ ∀ v H', Q' v H' → Q v H'
theorem pe_mono {X : Cx} {e : Expr} {te : TE} (ha : PE X e te) : PE X e (tMono te) := ⟨fun pins s σ H Q I ⟨Q', h, hq⟩ => thn (ha.run pins s σ H Q' I h) fun u s' ⟨v, H', I', r, q⟩ => ⟨v, H', I', r, hq v H' q⟩⟩
theorem pmk_cl {X : Cx} {x F : Str} {C : Addr} {p pos : Pos} {e : Expr} {te : TE} (c : ClE X.prog X.w X.K X.mg X.base x C F) (hr : Room 2 X.A) (hg : Gl X x) (ha : PE X e te) (hdb : (x == ("__debug__" : Str)) = false := by decide)
    (he : starEach [e] X.env = (false, eval e X.env) :: starEach [] X.env := by rfl) (hpl : (backTo pos (starEach [] X.env)).any (·.1) = false := by rfl) : PMk X (.Call (.Name x p) [e] [] pos) (tErr C F te) := by
  obtain ⟨f, fd, O, iC, tI, G, hb, hm, hn⟩ := c.ex
  have M := pmk_oex (pos := pos) (p := p) O iC tI G hr hb .nil (fun _ _ _ _ _ _ _ z => False.elim z) hg hm (pa_cons (pe_mono ha) pa_nil he) hdb he hpl
  intro pins s σ H Q I h
  refine M pins s σ H Q I ?_
  have key : ∀ (v : V) (H1 : Hp), (∀ d H', H1 d = none → Same H1 H' → H' d = some (.xd [(F, v)]) → Q (.ref C) (some d) H') →
      (([v] : List V).length ≤ 1000 ∧ ∀ a, H1 a = none → spSu X.K C F (.ref a :: ([v] ++ [])) (upd H1 a (exo a C none))
        (fun v' H2 => v' = .non ∧ ∃ (d : Addr) (fs : List (Str × V)), H2 a = some (exo a C (some d)) ∧ H2 d = some (exd d fs) ∧ H1 d = none ∧ Q (.ref C) (some d) (upd (L2.del H2 a) d (.xd fs))) (fun _ _ _ => False)) := fun v H1 q => by
    refine ⟨by show 1 ≤ 1000; decide, fun a na => ⟨a, v, rfl, upd_same, hn, fun dx nd ne => ⟨rfl, dx, [(F, v)], upd_same, by rw [upd_ne ne, upd_same], ?_, ?_⟩⟩⟩
    · rw [upd_ne ne] at nd
      exact nd
    · rw [upd_ne ne] at nd
      refine q dx _ nd (fun b o hb => ?_) upd_same
      have h1 : b ≠ a := ne_of_none hb na
      have h2 : b ≠ dx := ne_of_none hb nd
      rw [upd_ne h2, del_ne h1, upd_ne h1, upd_ne h2, upd_ne h1]
      exact hb
  exact ⟨_, h, fun v H1 q => key v H1 q⟩
end Ow

/-! ## W11a -/
set_option Elab.async false
set_option linter.all false
set_option maxRecDepth 100000
set_option maxHeartbeats 4000000
/-! The rows of a search, as they stand in the heap -/
namespace Ow
open PySem PySem.Spec PyProof.Rows L2
abbrev ksV (ks : List (List Nat × Addr)) : List (List L2.Key × V) := ks.map fun q => (skey q.1, V.ref q.2)
theorem valV_ks : ∀ (ks : List (List Nat × Addr)) (sh : List Nat), valV (ksV ks) (skey sh) = (ks.find? fun q => decide (q.1 = sh)).map fun q => V.ref q.2
  | [], sh => rfl
  | x :: ks, sh => by
    have ih := valV_ks ks sh
    by_cases h : x.1 = sh
    · rw [ksV, List.map_cons, valV_pos (by show skey x.1 = skey sh; rw [h]), List.find?_cons, decide_eq_true h]
      rfl
    · rw [ksV, List.map_cons, valV_neg (by show ¬ skey x.1 = skey sh; exact fun z => h (skey_inj z)), List.find?_cons, decide_eq_false h]
      exact ih
theorem ks_some {ks : List (List Nat × Addr)} {sh : List Nat} {d : Addr} (nd : (ks.map (·.1)).Nodup) (h : (sh, d) ∈ ks) : valV (ksV ks) (skey sh) = some (.ref d) := by
  rw [valV_ks]
  cases e : ks.find? fun q => decide (q.1 = sh) with
  | none =>
    rw [List.find?_eq_none] at e
    exact absurd (decide_eq_true rfl) (e _ h)
  | some q =>
    have h1 : q.1 = sh := by simpa using List.find?_some e
    have h2 : q ∈ ks := List.mem_of_find?_eq_some e
    obtain ⟨i, hi⟩ := List.mem_iff_getElem?.mp h
    obtain ⟨j, hj⟩ := List.mem_iff_getElem?.mp h2
    have ei : (ks.map (·.1))[i]? = some sh := by rw [List.getElem?_map, hi]; rfl
    have ej : (ks.map (·.1))[j]? = some sh := by rw [List.getElem?_map, hj, ← h1]; rfl
    have := (List.getElem?_inj (List.getElem?_eq_some_iff.mp ei).1 nd).mp (ei.trans ej.symm)
    rw [this, hj] at hi
    rw [Option.some.inj hi]
    rfl
theorem ks_none {ks : List (List Nat × Addr)} {sh : List Nat} (h : valV (ksV ks) (skey sh) = none) : ∀ q ∈ ks, q.1 ≠ sh := by
  rw [valV_ks, Option.map_eq_none_iff, List.find?_eq_none] at h
  intro q hq e
  exact h q hq (decide_eq_true e)
theorem ks_of {ks : List (List Nat × Addr)} {sh : List Nat} {v : V} (h : valV (ksV ks) (skey sh) = some v) : ∃ d, (sh, d) ∈ ks ∧ v = .ref d := by
  rw [valV_ks] at h
  obtain ⟨q, h1, h2⟩ := Option.map_eq_some_iff.mp h
  have e : q.1 = sh := by simpa using List.find?_some h1
  refine ⟨q.2, ?_, h2.symm⟩
  rw [← e]
  exact List.mem_of_find?_eq_some h1
theorem putK_ks {ks : List (List Nat × Addr)} {sh : List Nat} {d : Addr} (h : valV (ksV ks) (skey sh) = none) : putK (ksV ks) (skey sh) (.ref d) = ksV (ks ++ [(sh, d)]) := by
  unfold putK
  rw [valV_any, h]
  simp [ksV]
theorem valV_es {es : List (L2.Key × V)} {sts : List Nat} (h : es.map (·.1) = sts.map kN) (s : Nat) : (valV es (kN s)).isSome = decide (s ∈ sts) := by
  induction es generalizing sts with
  | nil => cases sts with
    | nil => rfl
    | cons x sts => cases h
  | cons p es ih => cases sts with
    | nil => cases h
    | cons x sts =>
      rw [List.map_cons, List.map_cons] at h
      injection h with h1 h2
      by_cases e : x = s
      · subst e
        rw [valV_pos h1]
        simp
      · rw [valV_neg (by rw [h1]; exact fun z => e (kN_inj z)), ih h2]
        have e2 : ¬ s = x := fun z => e z.symm
        simp [e2]
theorem valV_mem {es : List (L2.Key × V)} {k : L2.Key} {v : V} (h : valV es k = some v) : (k, v) ∈ es := by
  unfold valV at h
  obtain ⟨p, h1, h2⟩ := Option.map_eq_some_iff.mp h
  have e : p.1 = k := by simpa using List.find?_some h1
  rw [← e, ← h2]
  exact List.mem_of_find?_eq_some h1
theorem putK_es {es : List (L2.Key × V)} {k : L2.Key} {v : V} (h : valV es k = none) : putK es k v = es ++ [(k, v)] := by
  unfold putK
  rw [valV_any, h]
  simp
/-- tuples, dicts of rows and of places stay -/
theorem PlAt.mono {H : Hp} {d : Addr} {sts : List Nat} {b b' : Nat} (h : PlAt H d sts b) (hb : b ≤ b') : PlAt H d sts b' := by
  obtain ⟨es, h1, h2, h3⟩ := h
  exact ⟨es, h1, h2, fun kv hkv => let ⟨a, wd, e1, e2, e3⟩ := h3 kv hkv; ⟨a, wd, e1, e2, Nat.le_trans e3 hb⟩⟩
theorem PlAt.keep {H H' : Hp} {d : Addr} {sts : List Nat} {b : Nat} (h : PlAt H d sts b) (hd : ∀ es, H d = some (.dK es) → H' d = some (.dK es)) (ht : ∀ a xs, H a = some (.tup xs) → H' a = some (.tup xs)) : PlAt H' d sts b := by
  obtain ⟨es, h1, h2, h3⟩ := h
  exact ⟨es, hd es h1, h2, fun kv hkv => let ⟨a, wd, e1, e2, e3⟩ := h3 kv hkv; ⟨a, wd, e1, ht _ _ e2, e3⟩⟩
theorem WtAt.keep {H H' : Hp} {wt : Addr} {l : List Pl} (h : WtAt H wt l) (hw : ∀ xs, H wt = some (.lst xs) → H' wt = some (.lst xs)) (ht : ∀ a xs, H a = some (.tup xs) → H' a = some (.tup xs)) : WtAt H' wt l := by
  obtain ⟨tt, h1, h2⟩ := h
  exact ⟨tt, hw _ h1, Paired.mapP h2 fun t q ⟨p, e1, e2⟩ => ⟨p, ht _ _ e1, ht _ _ e2⟩⟩
theorem RowsAt.mono {H : Hp} {r : Addr} {l : List Pl} {b b' : Nat} {ks : List (List Nat × Addr)} (h : RowsAt H r l b ks) (hb : b ≤ b') : RowsAt H r l b' ks := ⟨h.at_, h.nd1, h.nd2, fun q hq => (h.pl q hq).mono hb, h.all, h.non⟩
theorem RowsAt.keep {H H' : Hp} {r : Addr} {l : List Pl} {b : Nat} {ks : List (List Nat × Addr)} (h : RowsAt H r l b ks) (hr : ∀ es, H r = some (.dT es) → H' r = some (.dT es)) (hd : ∀ q ∈ ks, ∀ es, H q.2 = some (.dK es) → H' q.2 = some (.dK es)) (ht : ∀ a xs, H a = some (.tup xs) → H' a = some (.tup xs)) : RowsAt H' r l b ks :=
  ⟨hr _ h.at_, h.nd1, h.nd2, fun q hq => (h.pl q hq).keep (hd q hq) ht, h.all, h.non⟩
/-- a new place in the row of sh, whose dict stands at d -/
theorem RowsAt.put {H' : Hp} {r d wa : Addr} {l : List Pl} {b st : Nat} {sh : List Nat} {ks : List (List Nat × Addr)} {es : List (L2.Key × V)} {wd : List Nat}
    (at_ : H' r = some (.dT (ksV ks))) (nd1 : (ks.map (·.1)).Nodup) (nd2 : (ks.map (·.2)).Nodup) (pl : ∀ q ∈ ks, q.2 ≠ d → PlAt H' q.2 (stOf l q.1) b) (all : ∀ p ∈ l, ∃ d, (p.1, d) ∈ ks) (non : ∀ q ∈ ks, q.1 = sh ∨ ∃ p ∈ l, p.1 = q.1)
    (hd : (sh, d) ∈ ks) (hk : es.map (·.1) = (stOf l sh).map kN) (hv : ∀ kv ∈ es, ∃ a wd, kv.2 = V.ref a ∧ TN H' a wd ∧ wd.length ≤ b) (h' : H' d = some (.dK (es ++ [(kN st, .ref wa)]))) (hw : TN H' wa wd) (hwl : wd.length ≤ b) : RowsAt H' r (l ++ [(sh, st)]) b ks := by
  refine ⟨at_, nd1, nd2, fun q hq => ?_, fun p hp => ?_, fun q hq => ?_⟩
  · by_cases e : q.2 = d
    · have e1 : q.1 = sh := by
        obtain ⟨i, hi⟩ := List.mem_iff_getElem?.mp hq
        obtain ⟨j, hj⟩ := List.mem_iff_getElem?.mp hd
        have ei : (ks.map (·.2))[i]? = some d := by rw [List.getElem?_map, hi, ← e]; rfl
        have ej : (ks.map (·.2))[j]? = some d := by rw [List.getElem?_map, hj]; rfl
        have := (List.getElem?_inj (List.getElem?_eq_some_iff.mp ei).1 nd2).mp (ei.trans ej.symm)
        rw [this, hj] at hi
        rw [← Option.some.inj hi]
      rw [stOf_app, if_pos (by rw [e1]), e1, e]
      refine ⟨_, h', by simp [hk], fun kv hkv => ?_⟩
      rcases List.mem_append.mp hkv with z | z
      · exact hv kv z
      · rw [List.mem_singleton.mp z]
        exact ⟨wa, wd, rfl, hw, hwl⟩
    · have n1 : ¬ (sh, st).1 = q.1 := fun z => by
        obtain ⟨i, hi⟩ := List.mem_iff_getElem?.mp hq
        obtain ⟨j, hj⟩ := List.mem_iff_getElem?.mp hd
        have ei : (ks.map (·.1))[i]? = some sh := by rw [List.getElem?_map, hi]; exact congrArg some z.symm
        have ej : (ks.map (·.1))[j]? = some sh := by rw [List.getElem?_map, hj]; rfl
        have := (List.getElem?_inj (List.getElem?_eq_some_iff.mp ei).1 nd1).mp (ei.trans ej.symm)
        rw [this, hj] at hi
        exact e (by rw [← Option.some.inj hi])
      rw [stOf_app, if_neg n1]
      exact pl q hq e
  · rcases List.mem_append.mp hp with z | z
    · exact all p z
    · rw [List.mem_singleton.mp z]
      exact ⟨d, hd⟩
  · rcases non q hq with z | ⟨p, hp, e⟩
    · exact ⟨(sh, st), List.mem_append_right _ (List.mem_singleton.mpr rfl), z.symm⟩
    · exact ⟨p, List.mem_append_left _ hp, e⟩
/-- both ways of setdefault lead to what Pr tells -/
theorem set_both {kvs : List (List L2.Key × V)} {k : List L2.Key} {H3 H4 : Hp} {z : V} {Q : VK} (Pr : V → Hp → Prop) (h1 : ∀ v, valV kvs k = some v → Pr v H3) (h2 : valV kvs k = none → Pr z H4) (h : ∀ v H8, Pr v H8 → Q v H8) :
    (∀ v, valV kvs k = some v → Q v H3) ∧ (valV kvs k = none → Q z H4) := ⟨fun v e => h _ _ (h1 v e), fun e => h _ _ (h2 e)⟩
/-- as RowsAt, but the row of sh may be empty -/
structure RowsPre (H : Hp) (r : Addr) (l : List Pl) (bnd : Nat) (ks : List (List Nat × Addr)) (sh : List Nat) : Prop where
  at_ : H r = some (.dT (ksV ks))
  nd1 : (ks.map (·.1)).Nodup
  nd2 : (ks.map (·.2)).Nodup
  pl : ∀ q ∈ ks, PlAt H q.2 (stOf l q.1) bnd
  all : ∀ p ∈ l, ∃ d, (p.1, d) ∈ ks
  non : ∀ q ∈ ks, q.1 = sh ∨ ∃ p ∈ l, p.1 = q.1
theorem RowsAt.few {H : Hp} {r : Addr} {l : List Pl} {b : Nat} {ks : List (List Nat × Addr)} (h : RowsAt H r l b ks) : ks.length ≤ l.length := by
  have := nodup_le (ks.map (·.1)) (l.map (·.1)) h.nd1 fun sh hs => by
    obtain ⟨q, hq, rfl⟩ := List.mem_map.mp hs
    obtain ⟨p, hp, e⟩ := h.non q hq
    rw [← e]
    exact List.mem_map.mpr ⟨p, hp, rfl⟩
  simpa using this
theorem cat_one {K : PySem.W.Frag} {H : Hp} {a b : Addr} {xs ys : List V} {Q : VK} (ha : H a = some (.tup xs)) (hb : H b = some (.tup ys)) (hy : ys ≠ []) (hl : xs.length + ys.length ≤ sizeLine) (q : ∀ p H', Same H H' → H' p = some (.tup (xs ++ ys)) → Q (.ref p) H') : rCatA K (.ref a) (.ref b) H Q :=
  ⟨a, b, xs, ys, rfl, rfl, SqT.of ha, SqT.of hb, hl, fun z => by subst z; exact q b H (Same.refl H) hb, fun _ z => absurd z hy, fun _ _ p np => q p _ (Same.upd np) upd_same⟩
end Ow

/-! ## W11 -/
set_option Elab.async false
set_option linter.all false
set_option maxRecDepth 100000
set_option maxHeartbeats 8000000
/-! go_on -/
namespace Ow
open PySem PySem.Spec PyProof.Rows L2
/-- what stands still while the search goes on: told of the heap ahead of it -/
structure GoC (cC : Addr) (H0 : Hp) (x mv c r wt : Addr) (lv : V) (lim : Option (List Nat)) (rs ss : List Nat) (ts : List (List Nat)) (sts : List Nat) (n start most : Nat) : Prop where
  co : CoAt cC H0 c rs ss
  mv : MvAt H0 mv ts sts
  lim : (lv = .non ∧ lim = none) ∨ ∃ b l, lv = .ref b ∧ lim = some l ∧ TN H0 b l ∧ l.length = rs.length
  l1 : 1 ≤ rs.length
  l4 : rs.length ≤ 4
  ls : ss.length = rs.length
  lt : ts.length = rs.length
  nx : H0 x = none
  nr : H0 r = none
  nw : H0 wt = none
  ok : TbOk ts n
  clo : Clo ts start n sts
  most : most ≤ 6000
section
variable {P : Program} {w : World} {K : PySem.W.Frag} {mg : Str → Option Value} {base : Heap} {cC cM cT cG : Addr}
def spGo (cC cT cG : Addr) : Sp := fun vs H Q E => ∃ (H0 : Hp) (x mv c r wt : Addr) (lv : V) (lim : Option (List Nat)) (rs ss : List Nat) (ts : List (List Nat)) (sts : List Nat) (n start most dn : Nat) (l : List Pl) (ks : List (List Nat × Addr)), vs = [.ref x] ∧
  GoC cC H0 x mv c r wt lv lim rs ss ts sts n start most ∧ Same H0 H ∧ TrAt cT H x mv c lv most r wt dn ∧ RowsAt H r l (5 * dn) ks ∧ (∀ q ∈ ks, H0 q.2 = none) ∧ WtAt H wt l ∧ SI rs ss ts lim start l dn ∧ l.length ≤ 7000 ∧ (dn = l.length → Q .non H) ∧
  ∀ q, l[dn]? = some q → (∀ H' ks' fo, (foldP rs ss ts lim q l ts.length).length ≤ most → Same H0 H' → TrAt cT H' x mv c lv most r wt (dn + 1) → RowsAt H' r (foldP rs ss ts lim q l ts.length) (5 * (dn + 1)) ks' → (∀ q ∈ ks', H0 q.2 = none) → WtAt H' wt (foldP rs ss ts lim q l ts.length) → Q (.ref fo) H') ∧
    (∀ d H', most < (foldP rs ss ts lim q l ts.length).length → Same H0 H' → H0 d = none → H' d = some (.xd [("most", nV most)]) → E (.ref cG) (some d) H')
theorem ok_go_on {f : Addr} {fd : FuncData} (F : Fun K "go_on" "Trail.go_on" s_go_on f fd) (T : Tx mg) (k : Kl K cC cM cT) (C_shown_next : Cl P w K mg base CX0 2 "shown_next" ["counters", "showing", "deed"] (spNext cC) [])
    (C_is_within_limit : ClMe P w K mg base CX0 1 cT "is_within_limit" ["self", "showing"] (spLim cC cT)) (R_TG : ClE P w K mg base "TooGreat" cG "most") : FnOk P w K mg base (L2.CX P w) 3 f fd ["self"] (spGo cC cT cG) := by
  refine F.okX c_go_on (fun vs H Q E h => ?_) (fun cdv A outer s H vs Q E hr h => ?_)
  · obtain ⟨H0, x, mv, c, r, wt, lv, lim, rs, ss, ts, sts, n, start, most, dn, l, ks, rfl, _⟩ := h
    rfl
  obtain ⟨H0, x, mv, c, r, wt, lv, lim, rs, ss, ts, sts, n, start, most, dn, l, ks, rfl, G, s0, ⟨dx, hx⟩, hR, hfr, hW, S, hl7, qN, qG⟩ := h
  refine ⟨_, pss_cons (ps_if (pt_cmpR op_eq (pe_fld (pv 0) rfl) (pe_callB (id := "len") (r := rLenOf K) call_len_seq (by rfl) T.n_len (by decide +kernel) (pa_cons (pe_fld (pv 0) rfl) (pa_nil))) (nomark _)) (pss_one (ps_ret (pe_non)))
    (pss_nil))
  (pss_cons (ps_asg (pe_ix (r := rIxL K) ix_list (pe_fld (pv 0) rfl) (pe_fld (pv 0) rfl) (fun _ _ => rfl)) (pg_tup rfl (pgs_cons (pg_name (i := 1) c_go_on.nd rfl (Or.inl rfl)) (pgs_cons (pg_name (i := 2) c_go_on.nd rfl (Or.inl rfl)) (pgs_nil)))))
  (pss_cons (ps_fldaug (pv 0) (pe_int) in_add)
  (pss_cons (ps_set (i := 3) c_go_on.nd rfl (Or.inl rfl) (pe_lst (pa_nil)))
  (pss_cons (ps_for (passes_of rfl) rfl (pi_enumA (by rfl) T.n_enumerate (pa_cons (pe_fld (pv 0) rfl) (pa_nil))) (pg_tup rfl (pgs_cons (pg_name (i := 4) c_go_on.nd rfl (Or.inl rfl)) (pgs_cons (pg_name (i := 5) c_go_on.nd rfl (Or.inl rfl)) (pgs_nil))))
    (pss_cons (ps_set (i := 6) c_go_on.nd rfl (Or.inl rfl) (pe_cl C_shown_next (hr.mono (by decide)) pass0 rfl (pa_cons (pe_fld (pv 0) rfl) (pa_cons (pv 1) (pa_cons (pv 4) (pa_nil))))))
  (pss_cons (ps_set (i := 7) c_go_on.nd rfl (Or.inl rfl) (pe_ifExp (pt_val (pe_clMe C_is_within_limit (hr.mono (by decide)) pass0 (pv 0) (pa_cons (pv 6) (pa_nil)))) (pe_dsetT (hu_of hr) (pe_fld (pv 0) rfl) (pv 6) (pe_dnewK) (by exact ⟨rfl, rfl, rfl, rfl⟩)) (pe_disp (pps_cons (pe_dget (hu_of hr) (pv 5) (pv 2) (fun _ _ => rfl)) (pe_tup (pa_nil)) pps_nil) (by rfl) (by rfl) (fun z => by cases z) (by decide))))
  (pss_one (ps_if (pt_cmp (pc_dnotin (hu_of hr) (pe_dget (hu_of hr) (pv 5) (pv 2) (fun _ _ => rfl)) (pv 7))) (pss_cons (ps_dput (hu_of hr) (pv 7) (pe_dget (hu_of hr) (pv 5) (pv 2) (fun _ _ => rfl)) (pe_op (r := rCatA K) op_catA (pe_dget (hu_of hr) (pe_dget (hu_of hr) (pe_fld (pv 0) rfl) (pv 1) (fun _ _ => rfl)) (pv 2) (fun _ _ => rfl)) (pe_tup (pa_cons (pv 4) (pa_nil)))) rfl)
  (pss_cons (ps_expr (pe_bm PySem.F.plainAttrs_list PySem.F.slot_list_append PySem.F.type_list_append mt_append (pe_fld (pv 0) rfl) (pa_cons (pe_tup (pa_cons (pv 6) (pa_cons (pe_dget (hu_of hr) (pv 5) (pv 2) (fun _ _ => rfl)) (pa_nil)))) (pa_nil))))
  (pss_one (ps_expr (pe_bm PySem.F.plainAttrs_list PySem.F.slot_list_append PySem.F.type_list_append mt_append (pv 3) (pa_cons (pv 6) (pa_nil)))))))
    (pss_nil))))))
  (pss_cons (ps_if (pt_cmpR op_gt (pe_callB (id := "len") (r := rLenOf K) call_len_seq (by rfl) T.n_len (by decide +kernel) (pa_cons (pe_fld (pv 0) rfl) (pa_nil))) (pe_fld (pv 0) rfl) (nomark _)) (pss_one (ps_raise rfl (takes_of rfl rfl rfl rfl) (pmk_cl R_TG (hr.mono (by decide)) rfl (pe_fld (pv 0) rfl))))
    (pss_nil))
  (pss_one (ps_ret (pv 3)))))))), ?_⟩
  obtain ⟨tt, hwt, hpt⟩ := id hW
  have htl : tt.length = l.length := Paired.length hpt
  refine ⟨_, rfl, _, _, _, _, _, rfl, hx, k.tr, k.tr7, rfl, _, rfl, _, _, _, _, _, rfl, hx, k.tr, k.tr6, rfl, wt, _, rfl, .inl (SqL.of hwt), rfl, _, rfl, ?_⟩
  rw [List.length_map, htl]
  by_cases hdn : dn = l.length
  · refine iteTb (by simp [hdn]) ?_
    exact qN hdn
  refine iteFb (decide_eq_false fun z => hdn (nV_inj z)) ?_
  have hlt : dn < l.length := by have := S.le; omega
  obtain ⟨q, hq⟩ := get_lt hlt
  obtain ⟨t, ht, p, htp, hp⟩ := paired_at hpt hq
  obtain ⟨sh, st⟩ := q
  obtain ⟨qA, qB⟩ := qG _ hq
  refine ⟨_, rfl, _, _, _, _, _, rfl, hx, k.tr, k.tr6, rfl, _, rfl, _, _, _, _, _, rfl, hx, k.tr, k.tr7, rfl, _, _, _, _, rfl, rfl, SqL.of hwt, atI_nat (refs_at ht), ?_⟩
  refine ⟨t, _, rfl, SqT.of htp, rfl, _, _, rfl, _, _, rfl, rfl, ?_⟩
  refine ⟨_, rfl, x, cT, dx, _, _, rfl, hx, k.tr, k.tr7, rfl, _, _, rfl, rfl, dx, _, hx, by show 7 < 1000; decide, ?_⟩
  generalize hg : upd H x _ = H1
  have hx1 : H1 x = some (.ins cT dx (trF mv c lv most r wt (dn + 1))) := by rw [← hg]; exact upd_same
  have w1 : SameX x H H1 := by rw [← hg]; exact SmE.updE .refl rfl
  clear hg
  refine ⟨by show 0 ≤ sizeLine; decide, fun fo nfo => ?_⟩
  have nxH : ∀ b o, H b = some o → (∀ C d f, o ≠ .ins C d f) → b ≠ x := fun b o hb ho z => by rw [z, hx] at hb; exact ho _ _ _ (Option.some.inj hb).symm
  have t1 : ∀ a xs, H a = some (.tup xs) → H1 a = some (.tup xs) := fun a xs e => w1 _ _ (nxH _ _ e fun _ _ _ z => by cases z) e
  have R1 : RowsAt H1 r l (5 * dn + 0) ks := hR.keep (fun es e => w1 _ _ (nxH _ _ e fun _ _ _ z => by cases z) e) (fun q _ es e => w1 _ _ (nxH _ _ e fun _ _ _ z => by cases z) e) t1
  have W1 : WtAt H1 wt l := hW.keep (fun xs e => w1 _ _ (nxH _ _ e fun _ _ _ z => by cases z) e) t1
  have s1 : Same H0 H1 := fun b o hb => w1 b o (fun z => by rw [z, G.nx] at hb; cases hb) (s0 b o hb)
  have p1 : TN H1 p sh := t1 _ _ hp
  clear w1 t1 hR hW hwt hpt htp hp hx htl nxH s0
  -- the new list of what is found
  have s2 : Same H1 (upd H1 fo (.lst [])) := Same.upd nfo
  have nfw : fo ≠ wt := fun z => by
    obtain ⟨tt, e, _⟩ := W1
    rw [z, e] at nfo
    cases nfo
  have hf2 : (upd H1 fo (.lst [])) fo = some (.lst []) := upd_same
  have nf0 : H0 fo = none := s1.free nfo
  have hx2 := s2 _ _ hx1
  have R2 := R1.keep (H' := upd H1 fo (.lst [])) (fun es e => s2 _ _ e) (fun q _ es e => s2 _ _ e) fun a xs e => s2 _ _ e
  have W2 := W1.keep (H' := upd H1 fo (.lst [])) (fun es e => s2 _ _ e) fun a xs e => s2 _ _ e
  have p2 := p1.same s2
  have s3 := s1.trans s2
  generalize upd H1 fo (.lst []) = H2 at s2 hf2 hx2 R2 W2 p2 s3 ⊢
  clear s1 s2 R1 W1 p1 hx1 nfo
  obtain ⟨as, hmv, hmp⟩ := id G.mv
  have hml : as.length = ts.length := Paired.length hmp
  have hqr : Reach rs ss ts lim start (sh, st) := S.re _ (List.mem_of_getElem? hq)
  have hsl : sh.length = rs.length := hqr.len
  have hst : st ∈ sts := hqr.inSts G.clo
  refine ⟨_, rfl, _, _, _, _, _, rfl, hx2, k.tr, k.tr1, rfl, mv, _, rfl, .inl ⟨SqL.of (s3 _ _ hmv), ?_⟩⟩
  refine for_it (n := ts.length) (fun i σ H' => ∃ v4 v5 v6 v7 ks' fl, σ = [some (.ref x), some (.ref p), some (nV st), some (.ref fo), v4, v5, v6, v7] ∧ Same H0 H' ∧ H' x = some (.ins cT dx (trF mv c lv most r wt (dn + 1))) ∧ RowsAt H' r (foldP rs ss ts lim (sh, st) l i) (5 * dn + i) ks' ∧
    (∀ q ∈ ks', H0 q.2 = none) ∧ WtAt H' wt (foldP rs ss ts lim (sh, st) l i) ∧ TN H' p sh ∧ H' fo = some (.lst fl) ∧ fl.length ≤ i) ?_ ?_ ?_ ?_ ?_
  · exact ⟨none, none, none, none, ks, [], rfl, s3, hx2, R2, hfr, W2, p2, hf2, Nat.le_refl _⟩
  · rintro i σ H' hi ⟨_, _, _, _, _, _, _, s', _⟩
    obtain ⟨a, ha⟩ := get_lt (show i < as.length by omega)
    exact ⟨_, _, SqL.of (s' _ _ hmv), refs_at ha⟩
  · rintro σ H' ⟨_, _, _, _, _, _, _, s', _⟩
    exact ⟨_, SqL.of (s' _ _ hmv), by rw [List.length_map, hml]; exact Nat.le_refl _⟩
  · rintro i y σ H4 H5 hi ⟨v4, v5, v6, v7, ks4, fl, rfl, s4, x4, R4, fr4, W4, p4, f4, hfl⟩ ⟨T', y', rfl, nT, rfl, hy⟩
    obtain ⟨a, ha⟩ := get_lt (show i < as.length by omega)
    have ey := hy _ (SqL.of (s4 _ _ hmv))
    rw [refs_at ha] at ey
    cases ey
    obtain ⟨row, hrow, had⟩ := paired_at' hmp ha
    have hm := List.mem_of_getElem? hrow
    have s5 : Same H4 (upd H4 T' (.tup [.int (i : Nat), .ref a])) := Same.upd nT
    have e5 : (upd H4 T' (.tup [.int (i : Nat), .ref a])) T' = some (.tup [.int (i : Nat), .ref a]) := upd_same
    generalize upd H4 T' (.tup [.int (i : Nat), .ref a]) = H5 at s5 e5
    refine ⟨T', _, rfl, SqT.of e5, rfl, _, _, rfl, _, _, rfl, rfl, ?_⟩
    refine ⟨_, rfl, _, _, _, _, _, rfl, s5 _ _ x4, k.tr, k.tr2, rfl, _, rfl, _, rfl, c, p, rs, ss, sh, i, rfl, G.co.same (s4.trans s5), p4.same s5, by rw [hsl, ← G.lt]; exact hi, by rw [hsl]; exact G.l4, hsl.symm, by rw [G.ls, hsl], fun H6 b s6 b6 => ?_⟩
    -- within the limit?
    have s46 := s5.trans s6
    have lim6 : (lv = .non ∧ lim = none) ∨ ∃ b l, lv = .ref b ∧ lim = some l ∧ TN H6 b l ∧ l.length = rs.length := by
      rcases G.lim with z | ⟨b, l, e1, e2, e3, e4⟩
      · exact .inl z
      · exact .inr ⟨b, l, e1, e2, e3.same (s4.trans s46), e4⟩
    refine ⟨_, rfl, x, dx, _, rfl, s46 _ _ x4, rfl, _, rfl, x, mv, c, b, r, wt, most, dn + 1, lv, lim, rs, ss, nextSh rs ss sh i, rfl, ⟨dx, s46 _ _ x4⟩, G.co.same (s4.trans s46), b6, by rw [nextSh_len, hsl], G.l1, G.l4, lim6, fun H7 s7 => ⟨_, rfl, ?_⟩⟩
    have s47 := s46.trans s7
    have x7 := s47 _ _ x4
    have R7 := R4.keep (H' := H7) (fun es e => s47 _ _ e) (fun q _ es e => s47 _ _ e) fun a xs e => s47 _ _ e
    have W7 := W4.keep (H' := H7) (fun es e => s47 _ _ e) fun a xs e => s47 _ _ e
    have p7 := p4.same s47
    have f7 := s47 _ _ f4
    have b7 := b6.same s7
    have s07 := s4.trans s47
    have a7 := s07 _ _ had
    clear s5 e5 s6 s7 s46 s47 x4 R4 W4 p4 f4 b6 lim6 s4 nT hy
    have edst : (ts.getD i []) = row := getD_of hrow
    -- the new state
    obtain ⟨st', hst', hv'⟩ : ∃ st', row.getD st 0 = st' ∧ valV (mvKvs sts row) (kN st) = some (nV st') := ⟨_, rfl, valV_mv hst⟩
    have esucc : succP rs ss ts (sh, st) i = (nextSh rs ss sh i, st') := by
      unfold succP
      rw [edst, hst']
    have mvG : ∀ {H' : Hp}, Same H0 H' → DGet H' a (nV st) (some (nV st')) := fun {H'} s => by
      have z : DGet H' a (nV st) (valV (mvKvs sts row) (kN st)) := DGet.k (k := kN st) (s _ _ had)
      rw [hv'] at z
      exact z
    have efold : foldP rs ss ts lim (sh, st) l (i + 1) = if inLim rs lim (nextSh rs ss sh i) = true then addP (foldP rs ss ts lim (sh, st) l i) (nextSh rs ss sh i, st') else foldP rs ss ts lim (sh, st) l i := by
      rw [foldP_succ]
      unfold stepP
      rw [esucc]
    have SFi := SF.fold S hqr i (Nat.le_of_lt hi)
    obtain ⟨mores, hpre⟩ := SFi.pre
    have hmem : (sh, st) ∈ foldP rs ss ts lim (sh, st) l i := by
      rw [hpre]
      exact List.mem_append_left _ (List.mem_of_getElem? hq)
    generalize hL : foldP rs ss ts lim (sh, st) l i = L at R7 W7 efold hmem
    by_cases hin : inLim rs lim (nextSh rs ss sh i) = true
    · rw [if_pos hin] at efold
      refine iteTb hin ?_
      refine ⟨_, rfl, _, _, _, _, _, rfl, x7, k.tr, k.tr5, rfl, r, rfl, .inr ⟨_, .inl R7.at_⟩, _, rfl, fun z nz => ⟨ksV ks4, skey (nextSh rs ss sh i), b, ?_, rfl, ?_, ?_, ?_⟩⟩
      · have s8 : Same H7 (upd H7 z (.dK [])) := Same.upd nz
        exact s8 _ _ R7.at_
      · rw [skey_kV]
        exact Same.upd nz _ _ b7
      · have h1 := R7.few
        have h2 := foldP_len rs ss ts lim (sh, st) l i
        rw [hL] at h2
        have h3 : sizeLine = 16777216 := sizeLine_eq
        have h4 := G.l4
        have h5 := G.lt
        unfold ksV
        rw [List.length_map]
        omega
      have nz0 : H0 z = none := s07.free nz
      refine set_both (fun v H8 => ∃ d ks8, v = .ref d ∧ Same H0 H8 ∧ H8 x = some (.ins cT dx (trF mv c lv most r wt (dn + 1))) ∧ RowsPre H8 r L (5 * dn + i) ks8 (nextSh rs ss sh i) ∧ (nextSh rs ss sh i, d) ∈ ks8 ∧ (∀ q ∈ ks8, H0 q.2 = none) ∧ WtAt H8 wt L ∧ TN H8 p sh ∧ H8 fo = some (.lst fl) ∧ TN H8 b (nextSh rs ss sh i)) ?_ ?_ ?_
      · intro v hv
        obtain ⟨d, hd, rfl⟩ := ks_of hv
        have s8 : Same H7 (upd H7 z (.dK [])) := Same.upd nz
        exact ⟨d, ks4, rfl, s07.trans s8, s8 _ _ x7, ⟨s8 _ _ R7.at_, R7.nd1, R7.nd2, fun q hq => (R7.pl q hq).keep (fun es e => s8 _ _ e) fun a xs e => s8 _ _ e, R7.all, fun q hq => .inr (R7.non q hq)⟩, hd, fr4, W7.keep (fun es e => s8 _ _ e) (fun a xs e => s8 _ _ e), p7.same s8, s8 _ _ f7, b7.same s8⟩
      · intro hv
        rw [putK_ks hv]
        have hno := ks_none hv
        have s8 : Same H7 (upd H7 z (.dK [])) := Same.upd nz
        have z8 : (upd H7 z (.dK [])) z = some (.dK []) := upd_same
        have R8 := R7.keep (H' := upd H7 z (.dK [])) (fun es e => s8 _ _ e) (fun q _ es e => s8 _ _ e) fun a xs e => s8 _ _ e
        have W8 := W7.keep (H' := upd H7 z (.dK [])) (fun es e => s8 _ _ e) fun a xs e => s8 _ _ e
        have x8 := s8 _ _ x7
        have p8 := p7.same s8
        have f8 := s8 _ _ f7
        have b8 := b7.same s8
        have s08 := s07.trans s8
        have nzk : ∀ q ∈ ks4, q.2 ≠ z := fun q hq e => by
          obtain ⟨es, h1, _⟩ := R7.pl q hq
          rw [e, nz] at h1
          cases h1
        generalize upd H7 z (.dK []) = H8 at z8 R8 W8 x8 p8 f8 b8 s08
        clear s8
        generalize hg : upd H8 r _ = H9
        have r9 : H9 r = some (.dT (ksV (ks4 ++ [(nextSh rs ss sh i, z)]))) := by rw [← hg]; exact upd_same
        have o9 : ∀ a o, H8 a = some o → (∀ es, o ≠ .dT es) → H9 a = some o := fun a o e n => by
          rw [← hg, upd_ne (ne_of e R8.at_ (n _))]
          exact e
        have s09 : Same H0 H9 := fun a o e => by
          rw [← hg, upd_ne (fun z => by rw [z, G.nr] at e; cases e)]
          exact s08 a o e
        clear hg
        have t9 : ∀ a xs, H8 a = some (.tup xs) → H9 a = some (.tup xs) := fun a xs e => o9 _ _ e (fun es z => by cases z)
        refine ⟨z, ks4 ++ [(nextSh rs ss sh i, z)], rfl, s09, o9 _ _ x8 (fun es z => by cases z), ⟨r9, ?_, ?_, fun q hq => ?_, fun p' hp' => ?_, fun q hq => ?_⟩, List.mem_append_right _ (List.mem_singleton.mpr rfl), fun q hq => ?_, W8.keep (fun xs e => o9 _ _ e (fun es z => by cases z)) t9, t9 _ _ p8, o9 _ _ f8 (fun es z => by cases z), t9 _ _ b8⟩
        · rw [List.map_append]
          refine List.nodup_append.mpr ⟨R8.nd1, by simp, fun a ha a' ha' e => ?_⟩
          obtain ⟨q, hq, rfl⟩ := List.mem_map.mp ha
          have e2 : a' = nextSh rs ss sh i := List.mem_singleton.mp ha'
          exact hno q hq (e.trans e2)
        · rw [List.map_append]
          refine List.nodup_append.mpr ⟨R8.nd2, by simp, fun a ha a' ha' e => ?_⟩
          obtain ⟨q, hq, rfl⟩ := List.mem_map.mp ha
          have e2 : a' = z := List.mem_singleton.mp ha'
          exact nzk q hq (e.trans e2)
        · rcases List.mem_append.mp hq with z' | z'
          · exact (R8.pl q z').keep (fun es e => o9 _ _ e (fun es z => by cases z)) t9
          · rw [List.mem_singleton.mp z']
            refine ⟨[], o9 _ _ z8 (fun es z => by cases z), ?_, fun kv h => by cases h⟩
            rw [stOf_nil fun p' hp' e => by
              obtain ⟨d, hd⟩ := R8.all p' hp'
              exact hno _ hd e]
            rfl
        · obtain ⟨d, hd⟩ := R8.all p' hp'
          exact ⟨d, List.mem_append_left _ hd⟩
        · rcases List.mem_append.mp hq with z' | z'
          · exact .inr (R8.non q z')
          · rw [List.mem_singleton.mp z']
            exact .inl rfl
        · rcases List.mem_append.mp hq with z' | z'
          · exact fr4 q z'
          · rw [List.mem_singleton.mp z']
            exact nz0
      · rintro v H8 ⟨d, ks8, rfl, s08, x8, R8, hd8, fr8, W8, p8, f8, b8⟩
        clear x7 R7 W7 p7 f7 b7 s07 nz nz0
        obtain ⟨es, hes, hk8, hv8⟩ := R8.pl _ hd8
        have nonD : H0 d = none := fr8 _ hd8
        refine ⟨_, rfl, _, rfl, a, _, rfl, mvG s08, _, rfl, d, _, rfl, DGet.k (k := kN st') hes, _, rfl, ?_⟩
        rw [valV_es hk8]
        by_cases hst8 : st' ∈ stOf L (nextSh rs ss sh i)
        · refine iteNT hst8 ?_
          have hmL := mem_stOf.mp hst8
          have eL : addP L (nextSh rs ss sh i, st') = L := by
            unfold addP
            rw [if_pos hmL]
          rw [eL] at efold
          have RA : RowsAt H8 r L (5 * dn + i) ks8 := ⟨R8.at_, R8.nd1, R8.nd2, R8.pl, R8.all, fun q hq => by
            rcases R8.non q hq with z | z
            · exact ⟨_, hmL, z.symm⟩
            · exact z⟩
          exact ⟨_, _, _, _, ks8, fl, rfl, s08, x8, by rw [efold]; exact RA.mono (Nat.le_succ _), fr8, by rw [efold]; exact W8, p8, f8, by omega⟩
        · have hnL : (nextSh rs ss sh i, st') ∉ L := fun z => hst8 (mem_stOf.mpr z)
          have eL : addP L (nextSh rs ss sh i, st') = L ++ [(nextSh rs ss sh i, st')] := by
            unfold addP
            rw [if_neg hnL]
          rw [eL] at efold
          refine iteND hst8 ?_
          -- the word of the place that is left
          obtain ⟨ds, hds⟩ := R8.all _ hmem
          obtain ⟨es0, hes0, hk0, hv0⟩ := R8.pl _ hds
          obtain ⟨v0, hv0s⟩ : ∃ v0, valV es0 (kN st) = some v0 := by
            have z := valV_es hk0 st
            rw [decide_eq_true (mem_stOf.mpr hmem)] at z
            exact Option.isSome_iff_exists.mp z
          obtain ⟨wa, wd, ewa, hwa, hwl⟩ := hv0 _ (valV_mem hv0s)
          have ewa' : v0 = .ref wa := ewa
          subst ewa'
          have g1 : DGet H8 r (.ref p) (some (.ref ds)) := by
            have z := DGet.t (k := skey sh) R8.at_ (show H8 p = some (.tup ((skey sh).map kV)) by rw [skey_kV]; exact p8)
            rw [ks_some R8.nd1 hds] at z
            exact z
          have g2 : DGet H8 ds (nV st) (some (.ref wa)) := by
            have z := DGet.k (k := kN st) hes0
            rw [hv0s] at z
            exact z
          have hz : sizeLine = 16777216 := sizeLine_eq
          have hl4 := G.l4
          have hl5 := G.lt
          have hLlen : L.length ≤ 7004 := by
            have h2 := foldP_len rs ss ts lim (sh, st) l i
            rw [hL] at h2
            have h4 := G.l4
            have h5 := G.lt
            omega
          refine ⟨_, rfl, _, _, _, _, _, rfl, x8, k.tr, k.tr5, rfl, _, rfl, r, _, rfl, g1, _, rfl, ds, _, rfl, g2, _, rfl, by show 1 ≤ sizeLine; decide, fun p2 n2 => ?_⟩
          have s9 : Same H8 (upd H8 p2 (.tup [nV i])) := Same.upd n2
          refine cat_one (s9 _ _ hwa) upd_same (by simp) (by rw [nVs_len]; show wd.length + 1 ≤ _; omega) fun wb H10 s10 h10 => ?_
          have s810 := s9.trans s10
          have es10 := s810 _ _ hes
          have none10 : valV es (kN st') = none := by
            have z := valV_es hk8 st'
            rw [decide_eq_false hst8] at z
            cases e : valV es (kN st') with
            | none => rfl
            | some v => rw [e] at z; cases z
          have esl : es.length < sizeLine := by
            have hk8' : es.map (·.1) = (stOf L (nextSh rs ss sh i)).map kN := hk8
            have z := congrArg List.length hk8'
            rw [List.length_map, List.length_map] at z
            have z2 : (stOf L (nextSh rs ss sh i)).length ≤ L.length := by
              unfold stOf
              rw [List.length_map]
              exact List.length_filter_le _ _
            omega
          have dp : DPut H10 d (nV st') (.ref wb) (upd H10 d (.dK (putK es (kN st') (.ref wb)))) := DPut.k (k := kN st') es10 esl
          rw [putK_es none10] at dp
          refine ⟨_, rfl, _, rfl, _, rfl, a, _, rfl, mvG (s08.trans s810), d, _, rfl, dp, ?_⟩
          have s010 := s08.trans s810
          have x10 := s810 _ _ x8
          have r10 := s810 _ _ R8.at_
          have W10 := W8.keep (H' := H10) (fun xs e => s810 _ _ e) fun a xs e => s810 _ _ e
          have p10 := p8.same s810
          have f10 := s810 _ _ f8
          have b10 := b8.same s810
          have pl10 : ∀ q ∈ ks8, PlAt H10 q.2 (stOf L q.1) (5 * dn + i) := fun q hq => (R8.pl q hq).keep (fun es e => s810 _ _ e) fun a xs e => s810 _ _ e
          have hv10 : ∀ kv ∈ es, ∃ a wd, kv.2 = V.ref a ∧ TN H10 a wd ∧ wd.length ≤ 5 * dn + (i + 1) := fun kv hkv => by
            obtain ⟨a, wd, e1, e2, e3⟩ := hv8 kv hkv
            exact ⟨a, wd, e1, e2.same s810, by omega⟩
          clear s9 s10 s810 x8 W8 p8 f8 b8 hes hes0 hv8 hwa g1 g2 s08
          generalize hg : upd H10 d _ = H11
          have d11 : H11 d = some (.dK (es ++ [(kN st', .ref wb)])) := by rw [← hg]; exact upd_same
          have o11 : ∀ a o, H10 a = some o → (∀ es, o ≠ .dK es) → H11 a = some o := fun a o e n => by
            rw [← hg, upd_ne (ne_of e es10 (n _))]
            exact e
          have k11 : ∀ a o, a ≠ d → H10 a = some o → H11 a = some o := fun a o n e => by
            rw [← hg, upd_ne n]
            exact e
          have s011 : Same H0 H11 := fun a o e => by
            rw [← hg, upd_ne (fun z => by rw [z, nonD] at e; cases e)]
            exact s010 a o e
          clear hg
          have t11 : ∀ a xs, H10 a = some (.tup xs) → H11 a = some (.tup xs) := fun a xs e => o11 _ _ e (fun es z => by cases z)
          have h11 : TN H11 wb (wd ++ [i]) := by
            have z := t11 _ _ h10
            show _ = _
            rw [z]
            simp [nVs]
          have RA : RowsAt H11 r (L ++ [(nextSh rs ss sh i, st')]) (5 * dn + (i + 1)) ks8 :=
            RowsAt.put (o11 _ _ r10 (fun es z => by cases z)) R8.nd1 R8.nd2 (fun q hq nq => ((pl10 q hq).mono (by omega)).keep (fun es e => k11 _ _ nq e) t11) R8.all R8.non hd8 hk8 (fun kv hkv => by
              obtain ⟨a, wd, e1, e2, e3⟩ := hv10 kv hkv
              exact ⟨a, wd, e1, t11 _ _ e2, e3⟩) d11 h11 (by rw [List.length_append]; show wd.length + 1 ≤ _; omega)
          have x11 := o11 _ _ x10 (fun es z => by cases z)
          have W11 := W10.keep (fun xs e => o11 _ _ e (fun es z => by cases z)) t11
          have p11 := t11 _ _ p10
          have f11 := o11 _ _ f10 (fun es z => by cases z)
          have b11 := t11 _ _ b10
          clear o11 k11 t11 pl10 hv10 x10 W10 p10 f10 b10 es10 d11 h11 h10 s010 r10
          -- waiting
          obtain ⟨tt, hwt, hpt⟩ := id W11
          have htl : tt.length = L.length := Paired.length hpt
          refine ⟨_, rfl, _, _, _, _, _, rfl, x11, k.tr, k.tr6, rfl, .inl ⟨rfl, _, SqL.of hwt⟩, _, rfl, _, rfl, _, rfl, a, _, rfl, mvG s011, by show 2 ≤ sizeLine; decide, fun t nt => ?_⟩
          have s12 : Same H11 (upd H11 t (.tup [.ref b, nV st'])) := Same.upd nt
          have t12 : (upd H11 t (.tup [.ref b, nV st'])) t = some (.tup [.ref b, nV st']) := upd_same
          have RA12 := RA.keep (H' := upd H11 t (.tup [.ref b, nV st'])) (fun es e => s12 _ _ e) (fun q _ es e => s12 _ _ e) fun a xs e => s12 _ _ e
          have s012 := s011.trans s12
          generalize upd H11 t (.tup [.ref b, nV st']) = H12 at s12 t12 RA12 s012 ⊢
          have hpt12 : Paired (fun t (q : Pl) => ∃ p, H12 t = some (.tup [.ref p, nV q.2]) ∧ TN H12 p q.1) tt L := Paired.mapP hpt fun u q ⟨p, e1, e2⟩ => ⟨p, s12 _ _ e1, e2.same s12⟩
          have w12 := s12 _ _ hwt
          have x12 := s12 _ _ x11
          have p12 := s12 _ _ p11
          have f12 := s12 _ _ f11
          have b12 := s12 _ _ b11
          clear s12 RA hpt W11 x11 p11 f11 b11 hwt s011
          refine ⟨wt, _, _, rfl, rfl, w12, by rw [List.length_map, htl]; omega, ?_⟩
          generalize hg : upd H12 wt _ = H13
          have w13 : H13 wt = some (.lst ((tt ++ [t]).map V.ref)) := by
            rw [← hg, upd_same]
            simp
          have k13 : ∀ a o, a ≠ wt → H12 a = some o → H13 a = some o := fun a o n e => by
            rw [← hg, upd_ne n]
            exact e
          have s013 : Same H0 H13 := fun a o e => k13 a o (fun z => by rw [z, G.nw] at e; cases e) (s012 a o e)
          clear hg
          have o13 : ∀ a o, H12 a = some o → (∀ xs, o ≠ .lst xs) → H13 a = some o := fun a o e n => k13 a o (ne_of e w12 (n _)) e
          have t13 : ∀ a xs, H12 a = some (.tup xs) → H13 a = some (.tup xs) := fun a xs e => o13 _ _ e (fun es z => by cases z)
          have RA13 := RA12.keep (H' := H13) (fun es e => o13 _ _ e (fun es z => by cases z)) (fun q _ es e => o13 _ _ e (fun es z => by cases z)) t13
          have W13 : WtAt H13 wt (L ++ [(nextSh rs ss sh i, st')]) := ⟨tt ++ [t], w13, by
            have z : Paired (fun t (q : Pl) => ∃ p, H13 t = some (.tup [.ref p, nV q.2]) ∧ TN H13 p q.1) tt L := Paired.mapP hpt12 fun u q ⟨p, e1, e2⟩ => ⟨p, t13 _ _ e1, t13 _ _ e2⟩
            exact Paired.snoc z ⟨b, t13 _ _ t12, t13 _ _ b12⟩⟩
          have x13 := o13 _ _ x12 (fun es z => by cases z)
          have p13 := t13 _ _ p12
          have f13 : H13 fo = some (.lst fl) := k13 _ _ nfw f12
          have b13 := t13 _ _ b12
          clear o13 k13 t13 RA12 hpt12 x12 p12 f12 b12 s012 w12
          -- found
          refine ⟨_, rfl, .inl ⟨rfl, _, SqL.of f13⟩, _, rfl, fo, fl, _, rfl, rfl, f13, by have := G.l4; have := G.lt; omega, ?_⟩
          generalize hg : upd H13 fo _ = H14
          have f14 : H14 fo = some (.lst (fl ++ [.ref b])) := by rw [← hg]; exact upd_same
          have k14 : ∀ a o, a ≠ fo → H13 a = some o → H14 a = some o := fun a o n e => by
            rw [← hg, upd_ne n]
            exact e
          clear hg
          have s014 : Same H0 H14 := fun a o e => k14 a o (fun z => by rw [z, nf0] at e; cases e) (s013 a o e)
          have o14 : ∀ a o, H13 a = some o → (∀ xs, o ≠ .lst xs) → H14 a = some o := fun a o e n => k14 a o (ne_of e f13 (n _)) e
          have t14 : ∀ a xs, H13 a = some (.tup xs) → H14 a = some (.tup xs) := fun a xs e => o14 _ _ e (fun es z => by cases z)
          have RA14 := RA13.keep (H' := H14) (fun es e => o14 _ _ e (fun es z => by cases z)) (fun q _ es e => o14 _ _ e (fun es z => by cases z)) t14
          have W14 := W13.keep (H' := H14) (fun xs e => k14 _ _ nfw.symm e) t14
          exact ⟨_, _, _, _, ks8, _, rfl, s014, o14 _ _ x13 (fun es z => by cases z), by rw [efold]; exact RA14, fr8, by rw [efold]; exact W14, t14 _ _ p13, f14, by rw [List.length_append]; show fl.length + 1 ≤ _; omega⟩
    · rw [if_neg hin] at efold
      refine iteFb (by simpa using hin) ?_
      -- a dict of its own, that holds the state
      refine fun d nd => ⟨_, rfl, _, rfl, a, _, rfl, mvG (s07.trans (Same.upd nd)), by show 0 ≤ sizeLine; decide, fun e ne => ?_⟩
      have s8 : Same H7 (upd (upd H7 d (.dK [])) e (.tup [])) := (Same.upd nd).trans (Same.upd ne)
      have d8 : (upd (upd H7 d (.dK [])) e (.tup [])) d = some (.dK []) := Same.upd ne _ _ upd_same
      generalize upd (upd H7 d (.dK [])) e (.tup []) = H8 at s8 d8
      refine ⟨d8, [(kN st', .ref e)], rfl, by show 1 ≤ 15; decide, ?_⟩
      have s9 : Same H7 (upd H8 d (.dK [(kN st', .ref e)])) := Same.updR s8 nd
      have d9 : (upd H8 d (.dK [(kN st', .ref e)])) d = some (.dK [(kN st', .ref e)]) := upd_same
      refine ⟨_, rfl, _, rfl, a, _, rfl, mvG (s07.trans s9), _, rfl, d, _, rfl, DGet.k (k := kN st') d9, _, rfl, ?_⟩
      rw [valV_pos rfl]
      refine iteFb rfl ?_
      exact ⟨_, _, _, _, ks4, fl, rfl, s07.trans s9, s9 _ _ x7, by rw [efold]; exact (R7.mono (Nat.le_succ _)).keep (fun es e => s9 _ _ e) (fun q _ es e => s9 _ _ e) (fun a xs e => s9 _ _ e), fr4, by rw [efold]; exact W7.keep (fun es e => s9 _ _ e) (fun a xs e => s9 _ _ e), p7.same s9, s9 _ _ f7, by omega⟩
  · rintro σ H' ⟨v4, v5, v6, v7, ks', fl, rfl, s', x', R', fr', W', p', f', _⟩
    obtain ⟨tt', hwt', hpt'⟩ := id W'
    have htl' : tt'.length = (foldP rs ss ts lim (sh, st) l ts.length).length := Paired.length hpt'
    refine ⟨_, rfl, _, _, _, _, _, rfl, x', k.tr, k.tr6, rfl, wt, _, rfl, .inl (SqL.of hwt'), _, rfl, _, _, _, _, _, rfl, x', k.tr, k.tr4, rfl, _, _, rfl, rfl, _, rfl, ?_⟩
    rw [List.length_map, htl']
    by_cases hm : most < (foldP rs ss ts lim (sh, st) l ts.length).length
    · refine iteTb (decide_eq_true (by omega)) ?_
      refine ⟨_, rfl, _, _, _, _, _, rfl, x', k.tr, k.tr4, rfl, fun d H'' nd sm e => qB d H'' hm (s'.trans sm) (s'.free nd) e⟩
    · refine iteFb (decide_eq_false (by omega)) ?_
      exact ⟨_, rfl, qA H' ks' fo (by omega) s' ⟨dx, x'⟩ (R'.mono (by have := G.l4; have := G.lt; omega)) fr' W'⟩
end
end Ow

/-! ## W12 -/
set_option Elab.async false
set_option linter.all false
set_option maxRecDepth 100000
set_option maxHeartbeats 8000000
/-! walked, need_finite -/
namespace Ow
open PySem PySem.Spec PyProof.Rows L2
/-- all places that are reached, each once -/
structure Full (rs ss : List Nat) (ts : List (List Nat)) (lim : Option (List Nat)) (start : Nat) (l : List Pl) : Prop where
  nd : l.Nodup
  all : ∀ p, p ∈ l ↔ Reach rs ss ts lim start p
section
variable {P : Program} {w : World} {K : PySem.W.Frag} {mg : Str → Option Value} {base : Heap} {cC cM cT cG cR : Addr}
theorem make_tr {H : Hp} {mv c : Addr} {start most : Nat} {lv : V} {rs ss : List Nat} {R : VK} {E : XK} (co : CoAt cC H c rs ss) (h4 : rs.length ≤ 4) (hl : ss.length = rs.length) (h1 : 1 ≤ rs.length) (x dx : Addr) (nx : H x = none) (ndx : H dx = none) (ne : dx ≠ x)
    (q : ∀ H' r wt ks, H r = none → H wt = none → (∀ q ∈ ks, H q.2 = none) → Same H H' → TrAt cT H' x mv c lv most r wt 0 → RowsAt H' r [(List.replicate rs.length 0, start)] 0 ks → WtAt H' wt [(List.replicate rs.length 0, start)] → R .non H') :
    spTr cC cT [.ref x, .ref mv, nV start, .ref c, lv, nV most] (upd (upd H dx (.own x)) x (.ins cT dx [])) R E := by
  have s1 : Same H (upd (upd H dx (.own x)) x (.ins cT dx [])) := fun c o e => by
    rw [upd_ne (ne_of_none e nx), upd_ne (ne_of_none e ndx)]
    exact e
  exact ⟨x, dx, mv, c, start, most, lv, rs, ss, rfl, upd_same, co.same s1, h4, hl, h1, fun H' r wt ks nr nw nk w' t' R' W' => q H' r wt ks (s1.free nr) (s1.free nw) (fun q hq => s1.free (nk q hq)) (fun c o e => w' c o (ne_of_none e nx) (s1 c o e)) t' R' W'⟩
def spWalked (cC cG : Addr) : Sp := fun vs H Q E => ∃ (mv c : Addr) (lv : V) (lim : Option (List Nat)) (rs ss : List Nat) (ts : List (List Nat)) (sts : List Nat) (n start most : Nat), vs = [.ref mv, nV start, .ref c, lv, nV most] ∧ MvAt H mv ts sts ∧ CoAt cC H c rs ss ∧
  ((lv = .non ∧ lim = none) ∨ ∃ b l, lv = .ref b ∧ lim = some l ∧ TN H b l ∧ l.length = rs.length) ∧ 1 ≤ rs.length ∧ rs.length ≤ 4 ∧ ss.length = rs.length ∧ ts.length = rs.length ∧ TbOk ts n ∧ Clo ts start n sts ∧ 1 ≤ most ∧ most ≤ 6000 ∧
  (∀ H' r l ks, Same H H' → RowsAt H' r l 40000 ks → Full rs ss ts lim start l → l.length ≤ most → Q (.ref r) H') ∧
  (∀ d H' (l : List Pl), Same H H' → H d = none → H' d = some (.xd [("most", nV most)]) → l.Nodup → (∀ p ∈ l, Reach rs ss ts lim start p) → most < l.length → E (.ref cG) (some d) H')
theorem ok_walked {f : Addr} {fd : FuncData} (F : Fun K "walked" "walked" s_walked f fd) (k : Kl K cC cM cT) (C_Trail : ClM P w K mg base CX0 3 "Trail" cT ["self", "moves", "start", "counters", "limit", "most"] (spTr cC cT) [])
    (C_go_on : ClMe P w K mg base (L2.CX P w) 3 cT "go_on" ["self"] (spGo cC cT cG)) : FnOk P w K mg base (L2.CX P w) 5 f fd ["moves", "start", "counters", "limit", "most"] (spWalked cC cG) := by
  refine F.okX c_walked (fun vs H Q E h => ?_) (fun cdv A outer s H vs Q E hr h => ?_)
  · obtain ⟨mv, c, lv, lim, rs, ss, ts, sts, n, start, most, rfl, _⟩ := h
    rfl
  obtain ⟨mv, c, lv, lim, rs, ss, ts, sts, n, start, most, rfl, hmv, co, hlim, h1, h4, hs, ht, ok, clo, m1, m6, qA, qB⟩ := h
  refine ⟨_, pss_cons (ps_set (i := 5) c_walked.nd rfl (Or.inl rfl) (pe_clM C_Trail (hr.mono (by decide)) pass0 rfl (pa_cons (pv 0) (pa_cons (pv 1) (pa_cons (pv 2) (pa_cons (pv 3) (pa_cons (pv 4) (pa_nil))))))))
  (pss_cons (ps_while (passes_of rfl) (pt_cmpR op_notN (pe_clMe0 C_go_on (hr.mono (by decide)) (passX (takes_of rfl rfl rfl rfl) (fun _ _ _ _ h => h)) (pv 5)) (pe_non) (nomark _)) (pss_one (ps_pass)))
  (pss_one (ps_ret (pe_fld (pv 5) rfl)))), ?_⟩
  refine ⟨_, rfl, _, rfl, _, rfl, _, rfl, _, rfl, ?_⟩
  intro x dx0 nx n2 n3
  refine make_tr co h4 hs h1 x dx0 nx n2 n3 fun H1 r wt ks nr nw nk s1 tr R W => ⟨rfl, ?_⟩
  have G : GoC cC H x mv c r wt lv lim rs ss ts sts n start most := ⟨co, hmv, hlim, h1, h4, hs, ht, nx, nr, nw, ok, clo, m6⟩
  refine ⟨fun m σ H' => ∃ l dn ks', σ = [some (.ref mv), some (nV start), some (.ref c), some lv, some (nV most), some (.ref x)] ∧ Same H H' ∧ TrAt cT H' x mv c lv most r wt dn ∧ RowsAt H' r l (5 * dn) ks' ∧ (∀ q ∈ ks', H q.2 = none) ∧ WtAt H' wt l ∧ SI rs ss ts lim start l dn ∧ l.length ≤ most ∧ m = most - dn,
    ⟨_, _, 0, ks, rfl, s1, tr, R, nk, W, SI.first, m1, rfl⟩, ?_⟩
  rintro m σ H2 ⟨l, dn, ks', rfl, s2, tr2, R2, nk2, W2, S, hl, rfl⟩
  obtain ⟨dx, hx⟩ := id tr2
  refine ⟨_, rfl, x, dx, _, rfl, hx, rfl, H, x, mv, c, r, wt, lv, lim, rs, ss, ts, sts, n, start, most, dn, l, ks', rfl, G, s2, tr2, R2, nk2, W2, S, by omega, fun hd => ?_, fun q hq => ⟨fun H3 ks3 fo hm s3 tr3 R3 nk3 W3 => ?_, fun d H3 hm s3 nd e3 => ?_⟩⟩
  · refine ⟨rfl, _, rfl, iteFb rfl ?_⟩
    subst hd
    refine ⟨_, rfl, _, _, _, _, _, rfl, hx, k.tr, k.tr5, rfl, ?_⟩
    exact qA H2 r l ks' s2 (R2.mono (by omega)) ⟨S.nd, fun p => ⟨S.re p, S.all⟩⟩ hl
  · refine ⟨rfl, _, rfl, iteTb rfl ?_⟩
    have hqr := S.re _ (List.mem_of_getElem? hq)
    have S3 := (SF.fold S hqr ts.length (Nat.le_refl _)).done S hq
    have hlt := (List.getElem?_eq_some_iff.mp hq).1
    exact ⟨_, fun _ _ z => z, ⟨most - (dn + 1), by omega, _, dn + 1, ks3, rfl, s3, tr3, R3, nk3, W3, S3, hm, rfl⟩⟩
  · have hqr := S.re _ (List.mem_of_getElem? hq)
    have S3 := (SF.fold S hqr ts.length (Nat.le_refl _)).done S hq
    exact qB d H3 _ s3 nd e3 S3.nd S3.re hm
def spNeedFin (cC cR : Addr) : Sp := fun vs H Q E => ∃ (c : Addr) (rs ss : List Nat), vs = [.ref c] ∧ CoAt cC H c rs ss ∧ (0 ∉ rs → Q (.ref c) H) ∧ (0 ∈ rs → ∀ d H', Same H H' → H d = none → H' d = some (.xd [("at", .ref c)]) → E (.ref cR) (some d) H')
theorem ok_need_finite {f : Addr} {fd : FuncData} (F : Fun K "need_finite" "need_finite" s_need_finite f fd) (C_is_finite : Cl P w K mg base CX0 1 "is_finite" ["counters"] (spFinite cC) []) (R_RF : ClE P w K mg base "Refused" cR "at") : FnOk P w K mg base (L2.CX P w) 3 f fd ["counters"] (spNeedFin cC cR) := by
  refine F.okX c_need_finite (fun vs H Q E h => ?_) (fun cdv A outer s H vs Q E hr h => ?_)
  · obtain ⟨c, rs, ss, rfl, _⟩ := h
    rfl
  obtain ⟨c, rs, ss, rfl, co, qA, qB⟩ := h
  refine ⟨_, pss_cons (ps_if (pt_not (pt_val (pe_cl C_is_finite (hr.mono (by decide)) pass0 rfl (pa_cons (pv 0) (pa_nil))))) (pss_one (ps_raise rfl (takes_of rfl rfl rfl rfl) (pmk_cl R_RF (hr.mono (by decide)) rfl (pv 0))))
    (pss_nil))
  (pss_one (ps_ret (pv 0))), ?_⟩
  refine ⟨_, rfl, c, rs, ss, rfl, co, _, rfl, ?_⟩
  by_cases h0 : 0 ∈ rs
  · refine iteTb (by simp [h0]) ⟨_, rfl, fun d H' nd s' e' => qB h0 d H' s' nd e'⟩
  · refine iteFb (by simp [h0]) ⟨_, rfl, qA h0⟩
end
end Ow

/-! ## M3 -/
set_option Elab.async false
set_option linter.all false
/-! Sorted lots, and that they are one -/
namespace Ow
open PySem
theorem sorted_eq {α : Type} {r : α → α → Prop} (irr : ∀ a, ¬ r a a) (tr : ∀ a b c, r a b → r b c → r a c) : ∀ l1 l2 : List α, l1.Pairwise r → l2.Pairwise r → (∀ x, x ∈ l1 ↔ x ∈ l2) → l1 = l2
  | [], [], _, _, _ => rfl
  | [], b :: l2, _, _, h => absurd ((h b).mpr (List.mem_cons_self ..)) (List.not_mem_nil)
  | a :: l1, [], _, _, h => absurd ((h a).mp (List.mem_cons_self ..)) (List.not_mem_nil)
  | a :: l1, b :: l2, h1, h2, h => by
    obtain ⟨p1, q1⟩ := List.pairwise_cons.mp h1
    obtain ⟨p2, q2⟩ := List.pairwise_cons.mp h2
    have e : a = b := by
      rcases List.mem_cons.mp ((h a).mp (List.mem_cons_self ..)) with z | z
      · exact z
      · rcases List.mem_cons.mp ((h b).mpr (List.mem_cons_self ..)) with y | y
        · exact y.symm
        · exact absurd (tr _ _ _ (p1 b y) (p2 a z)) (irr a)
    subst e
    rw [sorted_eq irr tr l1 l2 q1 q2 fun x => ⟨fun hx => ?_, fun hx => ?_⟩]
    · rcases List.mem_cons.mp ((h x).mp (List.mem_cons_of_mem _ hx)) with z | z
      · rw [z] at hx; exact absurd (p1 a hx) (irr a)
      · exact z
    · rcases List.mem_cons.mp ((h x).mpr (List.mem_cons_of_mem _ hx)) with z | z
      · rw [z] at hx; exact absurd (p2 a hx) (irr a)
      · exact z
def intsOf (l : List Nat) : List Int := l.map fun n : Nat => (n : Int)
theorem intsOf_inj {a b : List Nat} (h : intsOf a = intsOf b) : a = b := by
  induction a generalizing b with
  | nil => cases b with
    | nil => rfl
    | cons y b => cases h
  | cons x a ih => cases b with
    | nil => cases h
    | cons y b =>
      unfold intsOf at h ih
      rw [List.map_cons, List.map_cons] at h
      injection h with h1 h2
      rw [show x = y from by omega, ih h2]
/-- the order of showings -/
def sltL (a b : List Nat) : Prop := intsOf a < intsOf b
theorem sltL_irr (a : List Nat) : ¬ sltL a a := List.lt_irrefl _
theorem sltL_tr (a b c : List Nat) (h : sltL a b) (h' : sltL b c) : sltL a c := List.lt_trans h h'
/-- the lots of a predicate on places -/
structure Lots (R : Pl → Prop) (L : List (List Nat × List Nat)) : Prop where
  srt : L.Pairwise fun a b => sltL a.1 b.1
  inr : ∀ q ∈ L, q.2.Pairwise (· < ·)
  non : ∀ q ∈ L, q.2 ≠ []
  mem : ∀ q ∈ L, ∀ s, s ∈ q.2 ↔ R (q.1, s)
  all : ∀ p, R p → ∃ q ∈ L, q.1 = p.1
theorem Lots.one {R : Pl → Prop} {L L' : List (List Nat × List Nat)} (h : Lots R L) (h' : Lots R L') : L = L' := by
  have half : ∀ {L L'}, Lots R L → Lots R L' → ∀ x, x ∈ L → x ∈ L' := fun {L L'} h h' x hx => by
    obtain ⟨s, hs⟩ := List.exists_mem_of_ne_nil _ (h.non x hx)
    obtain ⟨q, hq, e⟩ := h'.all _ ((h.mem x hx s).mp hs)
    have e2 : q.2 = x.2 := sorted_eq (r := (· < ·)) (fun a => Nat.lt_irrefl a) (fun a b c => Nat.lt_trans) _ _ (h'.inr q hq) (h.inr x hx) fun t => by
      rw [h'.mem q hq, h.mem x hx, show q.1 = x.1 from e]
    rw [← show q = x from Prod.ext e e2]
    exact hq
  exact sorted_eq (r := fun a b : List Nat × List Nat => sltL a.1 b.1) (fun a => sltL_irr a.1) (fun a b c => sltL_tr _ _ _) _ _ h.srt h'.srt fun x => ⟨half h h' x, half h' h x⟩
/-! ### the encodings -/
def encSh (l : List Nat) : PyData := .tuple ((intsOf l).map .int)
def encPr (p : Nat × Nat) : PyData := .tuple [.int (p.1 : Nat), .int (p.2 : Nat)]
def encRow (q : List Nat × List Nat) : PyData := .tuple [encSh q.1, encSh q.2]
theorem alike_ints : ∀ a b : List Int, PySem.W.alikeAll (a.map .int) (b.map .int) = true
  | [], _ => by simp [PySem.W.alikeAll]
  | _ :: _, [] => by simp [PySem.W.alikeAll]
  | x :: a, y :: b => by simp [PySem.W.alikeAll, PySem.W.alike, alike_ints a b]
theorem alike_sh (a b : List Nat) : PySem.W.alike (encSh a) (encSh b) = true := by
  unfold encSh
  simp [PySem.W.alike, alike_ints]
theorem eqv_ints : ∀ a b : List Int, PyData.eqvAll (a.map .int) (b.map .int) = decide (a = b)
  | [], [] => by simp [PyData.eqvAll]
  | [], _ :: _ => by simp [PyData.eqvAll]
  | _ :: _, [] => by simp [PyData.eqvAll]
  | x :: a, y :: b => by
    have ih := eqv_ints a b
    simp only [List.map_cons, PyData.eqvAll, PyData.eqv, ih]
    by_cases h : x = y <;> by_cases h2 : a = b <;> simp [h, h2]
theorem eqv_sh (a b : List Nat) : PyData.eqv (encSh a) (encSh b) = decide (a = b) := by
  unfold encSh
  rw [show PyData.eqv (.tuple ((intsOf a).map .int)) (.tuple ((intsOf b).map .int)) = PyData.eqvAll ((intsOf a).map .int) ((intsOf b).map .int) from by simp [PyData.eqv], eqv_ints]
  exact decide_eq_decide.mpr ⟨intsOf_inj, fun h => by rw [h]⟩
theorem lt_sh (a b : List Nat) : PySem.W.dataLt (encSh a) (encSh b) = decide (intsOf a < intsOf b) := by
  unfold encSh
  rw [PySem.W.dataLt_tuple]
  exact PySem.W.dataLt_ints _ _
theorem lt_row (a b : List Nat × List Nat) (h : a.1 ≠ b.1) : PySem.W.dataLt (encRow a) (encRow b) = decide (intsOf a.1 < intsOf b.1) := by
  unfold encRow
  rw [PySem.W.dataLt_pair (alike_sh _ _) (alike_sh _ _), eqv_sh, decide_eq_false h, if_neg Bool.false_ne_true, lt_sh]
theorem total_lt {a b : List Nat} (h : a ≠ b) (h2 : ¬ intsOf b < intsOf a) : intsOf a < intsOf b := by
  rcases List.le_iff_lt_or_eq.mp (List.not_lt.mp h2) with z | z
  · exact z
  · exact absurd (intsOf_inj z) h
theorem pw_le {β : Type} (enc : β → PyData) (l : List β) : (l.mergeSort (PySem.W.dataLe false enc)).Pairwise (fun a b => PySem.W.dataLe false enc a b = true) := PySem.W.sort_pairwise (PySem.W.sortLe_total _ _ _) l
/-- rows of different showings, sorted -/
theorem sort_rows (l : List (List Nat × List Nat)) (nd : (l.map (·.1)).Nodup) : (l.mergeSort (PySem.W.dataLe false encRow)).Pairwise (fun a b => sltL a.1 b.1) := by
  have h1 := pw_le encRow l
  have h2 : (l.mergeSort (PySem.W.dataLe false encRow)).Pairwise (fun a b => a.1 ≠ b.1) := by
    have p : ((l.mergeSort (PySem.W.dataLe false encRow)).map (·.1)).Nodup := ((List.mergeSort_perm l _).map (·.1)).nodup_iff.mpr nd
    unfold List.Nodup at p
    rw [List.pairwise_map] at p
    exact p
  refine (h1.and h2).imp fun {a b} ⟨e, n⟩ => ?_
  have e' : (!PySem.W.dataLt (encRow b) (encRow a)) = true := e
  rw [lt_row b a (fun z => n z.symm)] at e'
  exact total_lt n (by simpa using e')
theorem sort_shs (l : List (List Nat)) (nd : l.Nodup) : (l.mergeSort (PySem.W.dataLe false encSh)).Pairwise sltL := by
  have h1 := pw_le encSh l
  have h2 : (l.mergeSort (PySem.W.dataLe false encSh)).Pairwise (fun a b => a ≠ b) := (List.mergeSort_perm l _).nodup_iff.mpr nd
  refine (h1.and h2).imp fun {a b} ⟨e, n⟩ => ?_
  have e' : (!PySem.W.dataLt (encSh b) (encSh a)) = true := e
  rw [lt_sh] at e'
  exact total_lt n (by simpa using e')
theorem sort_prs (l : List (Nat × Nat)) (nd : l.Nodup) (h0 : ∀ p ∈ l, p.2 = 0) : ((l.mergeSort (PySem.W.dataLe false encPr)).map (·.1)).Pairwise (· < ·) := by
  have h1 := pw_le encPr l
  have h2 : (l.mergeSort (PySem.W.dataLe false encPr)).Pairwise (fun a b => a ≠ b) := (List.mergeSort_perm l _).nodup_iff.mpr nd
  rw [List.pairwise_map]
  refine (h1.and h2).imp_of_mem fun {a b} ha hb ⟨e, n⟩ => ?_
  have a0 := h0 a ((List.mergeSort_perm l _).mem_iff.mp ha)
  have b0 := h0 b ((List.mergeSort_perm l _).mem_iff.mp hb)
  have e' : (!PySem.W.dataLt (encPr b) (encPr a)) = true := e
  unfold encPr at e'
  rw [PySem.W.dataLt_ii] at e'
  have n1 : a.1 ≠ b.1 := fun z => n (Prod.ext z (a0.trans b0.symm))
  simp at e'
  omega
end Ow

/-! ## M4 -/
set_option Elab.async false
set_option linter.all false
/-! The lots of what a search found -/
namespace Ow
open PySem
theorem lots_of {R : Pl → Prop} {l : List Pl} {bs : List (List Nat × List Nat)} (hl : ∀ p, p ∈ l ↔ R p) (nd : (bs.map (·.1)).Nodup) (h1 : ∀ b ∈ bs, b.2.Pairwise (· < ·) ∧ ∀ s, s ∈ b.2 ↔ (b.1, s) ∈ l) (h2 : ∀ p ∈ l, ∃ b ∈ bs, b.1 = p.1) (h3 : ∀ b ∈ bs, ∃ p ∈ l, p.1 = b.1) : Lots R (bs.mergeSort (PySem.W.dataLe false encRow)) := by
  have hm : ∀ x, x ∈ bs.mergeSort (PySem.W.dataLe false encRow) ↔ x ∈ bs := fun x => (List.mergeSort_perm bs _).mem_iff
  refine ⟨sort_rows bs nd, fun q hq => (h1 q ((hm q).mp hq)).1, fun q hq => ?_, fun q hq s => ((h1 q ((hm q).mp hq)).2 s).trans (hl _), fun p hp => ?_⟩
  · obtain ⟨p, hp, e⟩ := h3 q ((hm q).mp hq)
    have : p.2 ∈ q.2 := ((h1 q ((hm q).mp hq)).2 p.2).mpr (by rw [← e]; exact hp)
    intro z
    rw [z] at this
    cases this
  · obtain ⟨b, hb, e⟩ := h2 p ((hl p).mpr hp)
    exact ⟨b, (hm b).mpr hb, e⟩
theorem alike_row (a b : List Nat × List Nat) : PySem.W.alike (encRow a) (encRow b) = true := by
  unfold encRow
  simp [PySem.W.alike, PySem.W.alikeAll, alike_sh]
theorem depth_ints : ∀ l : List Int, PyData.depthAll (l.map .int) = 0
  | [] => by simp [PyData.depthAll]
  | x :: l => by simp [PyData.depthAll, PyData.depth, depth_ints l]
theorem depth_sh (l : List Nat) : (encSh l).depth = 1 := by
  unfold encSh
  simp [PyData.depth, depth_ints]
theorem depth_row (q : List Nat × List Nat) : (encRow q).depth = 2 := by
  unfold encRow
  simp [PyData.depth, PyData.depthAll, depth_sh]
theorem depth_pr (q : Nat × Nat) : (encPr q).depth = 1 := by
  unfold encPr
  simp [PyData.depth, PyData.depthAll]
theorem alike_pr (a b : Nat × Nat) : PySem.W.alike (encPr a) (encPr b) = true := by
  unfold encPr
  simp [PySem.W.alike, PySem.W.alikeAll]
theorem exists_list {α β : Type} {Q : Nat → α → β → Prop} : ∀ {ys : List α}, (∀ (i : Nat) y, ys[i]? = some y → ∃ b, Q i y b) → ∃ bs : List β, bs.length = ys.length ∧ ∀ (i : Nat) y b, ys[i]? = some y → bs[i]? = some b → Q i y b
  | [], _ => ⟨[], rfl, fun i y b h => by simp at h⟩
  | y :: ys, h => by
    obtain ⟨b, hb⟩ := h 0 y rfl
    obtain ⟨bs, e, k⟩ := exists_list (Q := fun i => Q (i + 1)) (ys := ys) fun i y hy => h (i + 1) y hy
    refine ⟨b :: bs, by simp [e], fun i y' b' h1 h2 => ?_⟩
    cases i with
    | zero => cases h1; cases h2; exact hb
    | succ i => exact k i y' b' (by simpa using h1) (by simpa using h2)
theorem lt_of_sorted {l : List Nat} (h : l.Pairwise (· ≤ ·)) (nd : l.Nodup) : l.Pairwise (· < ·) := (h.and nd).imp fun ⟨a, b⟩ => Nat.lt_of_le_of_ne a b
end Ow

/-! ## W13 -/
set_option Elab.async false
set_option linter.all false
set_option maxRecDepth 100000
set_option maxHeartbeats 8000000
/-! open_lots -/
namespace Ow
open PySem PySem.Spec PyProof.Rows L2
abbrev s_open_lots : Stmt := topS 42
theorem c_open_lots : FnScope ["machine", "first", "counters", "most", "rows", "showing", "places"] ["machine", "first", "counters", "most"] (defScope s_open_lots) := ⟨rfl, rfl, rfl, by decide +kernel, rfl, by decide +kernel, by decide +kernel⟩
abbrev s_open_lot : Stmt := topS 43
theorem c_open_lot : FnScope ["machine", "first", "counters", "showing", "most", "told", "rows"] ["machine", "first", "counters", "showing", "most"] (defScope s_open_lot) := ⟨rfl, rfl, rfl, by decide +kernel, rfl, by decide +kernel, by decide +kernel⟩
abbrev s_needed_values : Stmt := topS 44
theorem c_needed_values : FnScope ["machine", "first", "counters", "most", "showing", "states"] ["machine", "first", "counters", "most"] (defScope s_needed_values) := ⟨rfl, rfl, rfl, by decide +kernel, rfl, by decide +kernel, by decide +kernel⟩

def RowAt (H : Hp) (a : Addr) (q : List Nat × List Nat) : Prop := ∃ u v, H a = some (.tup [.ref u, .ref v]) ∧ TN H u q.1 ∧ TN H v q.2
def LotsAt (H : Hp) (p : Addr) (L : List (List Nat × List Nat)) : Prop := ∃ as : List Addr, H p = some (.tup (as.map V.ref)) ∧ Paired (RowAt H) as L
theorem RowAt.keep {H H' : Hp} {a : Addr} {q : List Nat × List Nat} (h : RowAt H a q) (t : ∀ a xs, H a = some (.tup xs) → H' a = some (.tup xs)) : RowAt H' a q := let ⟨u, v, h1, h2, h3⟩ := h; ⟨u, v, t _ _ h1, t _ _ h2, t _ _ h3⟩
theorem LotsAt.keep {H H' : Hp} {p : Addr} {L : List (List Nat × List Nat)} (h : LotsAt H p L) (t : ∀ a xs, H a = some (.tup xs) → H' a = some (.tup xs)) : LotsAt H' p L := let ⟨as, h1, h2⟩ := h; ⟨as, t _ _ h1, Paired.mapP h2 fun _ _ z => z.keep t⟩
section
variable {K : PySem.W.Frag} {H : Hp}
theorem dpAll_ints : ∀ l : List Int, DpAll K H (l.map V.int) (l.map .int)
  | [] => .nil
  | x :: l => .cons (.int x) (dpAll_ints l)
theorem dp_tn {a : Addr} {l : List Nat} (h : TN H a l) : Dp K H (.ref a) (encSh l) := by
  refine .tup (TN.sq h) ?_
  rw [nVs_int]
  exact dpAll_ints _
theorem dp_row {a : Addr} {q : List Nat × List Nat} (h : RowAt H a q) : Dp K H (.ref a) (encRow q) := let ⟨u, v, h1, h2, h3⟩ := h; .tup (SqT.of h1) (.cons (dp_tn h2) (.cons (dp_tn h3) .nil))
def lotsD (L : List (List Nat × List Nat)) : PyData := .tuple (L.map encRow)
theorem dp_lots {p : Addr} {L : List (List Nat × List Nat)} (h : LotsAt H p L) : Dp K H (.ref p) (lotsD L) := by
  obtain ⟨as, h1, h2⟩ := h
  refine .tup (SqT.of h1) ?_
  clear h1
  induction h2 with
  | nil => exact .nil
  | cons r t ih => exact .cons (dp_row r) ih
theorem ok_rows (bs : List (List Nat × List Nat)) (h : bs.length ≤ 1000000) : SortOk encRow bs :=
  ⟨PySem.W.AllAlike.of fun a b => alike_row a b, PySem.W.Sortable.tuples fun b => ⟨_, _, rfl⟩, fun b _ => by rw [depth_row]; decide, h⟩
end
/-- the sorted keys of a dict of places, as a list of states -/
theorem keys_sorted {es : List (L2.Key × V)} {sts : List Nat} (h : es.map (·.1) = sts.map kN) (nd : sts.Nodup) {ns' : List Int} (pm : ns'.Perm (intsOf sts)) (pw : ns'.Pairwise (· ≤ ·)) : ∃ st' : List Nat, ns'.map V.int = nVs st' ∧ st'.Perm sts ∧ st'.Pairwise (· < ·) := by
  have back : ∀ z ∈ ns', ((Int.toNat z : Nat) : Int) = z := fun z hz => by
    obtain ⟨s, _, rfl⟩ := List.mem_map.mp (pm.mem_iff.mp hz)
    rfl
  have pm' : (ns'.map Int.toNat).Perm sts := by
    have := pm.map Int.toNat
    unfold intsOf at this
    rw [List.map_map] at this
    rw [show (Int.toNat ∘ fun s : Nat => (s : Int)) = id from rfl, List.map_id] at this
    exact this
  refine ⟨ns'.map Int.toNat, ?_, pm', lt_of_sorted ?_ (pm'.nodup_iff.mpr nd)⟩
  · rw [nVs, List.map_map]
    exact List.map_congr_left fun z hz => by
      show V.int z = V.int ((Int.toNat z : Nat) : Int)
      rw [back z hz]
  · rw [List.pairwise_map]
    exact pw.imp fun h => by omega
theorem keys_ints {es : List (L2.Key × V)} {sts : List Nat} (h : es.map (·.1) = sts.map kN) : es.map (fun kv => kV kv.1) = (intsOf sts).map V.int := by
  have e : es.map (fun kv => kV kv.1) = (es.map (·.1)).map kV := by rw [List.map_map]; rfl
  rw [e, h, List.map_map]
  unfold intsOf
  rw [List.map_map]
  rfl
section
variable {P : Program} {w : World} {K : PySem.W.Frag} {mg : Str → Option Value} {base : Heap} {cC cM cT cG cR : Addr}
def spLots (cC cM cG cR : Addr) : Sp := fun vs H Q E => ∃ (m c : Addr) (ts : List (List Nat)) (n first most : Nat) (rs ss : List Nat), vs = [.ref m, nV first, .ref c, nV most] ∧ MaAt cM H m ts n ∧ TbOk ts n ∧ first < n ∧ CoAt cC H c rs ss ∧ rs.length = ts.length ∧ ss.length = rs.length ∧ 1 ≤ most ∧ most ≤ 6000 ∧
  (0 ∉ rs → (∀ H' p l L, Same H H' → Full rs ss ts none first l → l.length ≤ most → LotsAt H' p L → Lots (Reach rs ss ts none first) L → Q (.ref p) H') ∧
    (∀ d H' (l : List Pl), Same H H' → H d = none → H' d = some (.xd [("most", nV most)]) → l.Nodup → (∀ p ∈ l, Reach rs ss ts none first p) → most < l.length → E (.ref cG) (some d) H')) ∧
  (0 ∈ rs → ∀ d H', Same H H' → H d = none → H' d = some (.xd [("at", .ref c)]) → E (.ref cR) (some d) H')
theorem ok_open_lots {f : Addr} {fd : FuncData} (F : Fun K "open_lots" "open_lots" s_open_lots f fd) (T : Tx mg) (C_need_kept : Cl P w K mg base CX0 5 "need_kept" ["machine", "first", "counters"] (spKept cC cM) [])
    (C_need_finite : Cl P w K mg base (L2.CX P w) 3 "need_finite" ["counters"] (spNeedFin cC cR) []) (C_moves_of : Cl P w K mg base CX0 6 "moves_of" ["machine", "first"] (spMoves cM) [])
    (C_walked : Cl P w K mg base (L2.CX P w) 5 "walked" ["moves", "start", "counters", "limit", "most"] (spWalked cC cG) []) : FnOk P w K mg base (L2.CX P w) 7 f fd ["machine", "first", "counters", "most"] (spLots cC cM cG cR) := by
  refine F.okX c_open_lots (fun vs H Q E h => ?_) (fun cdv A outer s H vs Q E hr h => ?_)
  · obtain ⟨m, c, ts, n, first, most, rs, ss, rfl, _⟩ := h
    rfl
  obtain ⟨m, c, ts, n, first, most, rs, ss, rfl, ma, ok, hf, co, hl, hs, m1, m6, qF, qR⟩ := h
  refine ⟨_, pss_cons (ps_expr (pe_cl C_need_kept (hr.mono (by decide)) pass0 rfl (pa_cons (pv 0) (pa_cons (pv 1) (pa_cons (pv 2) (pa_nil))))))
  (pss_cons (ps_expr (pe_cl C_need_finite (hr.mono (by decide)) (passX (takes_of rfl rfl rfl rfl) (fun _ _ _ _ h => h)) rfl (pa_cons (pv 2) (pa_nil))))
  (pss_cons (ps_set (i := 4) c_open_lots.nd rfl (Or.inl rfl) (pe_cl C_walked (hr.mono (by decide)) (passX (takes_of rfl rfl rfl rfl) (fun _ _ _ _ h => h)) rfl (pa_cons (pe_cl C_moves_of (hr.mono (by decide)) pass0 rfl (pa_cons (pv 0) (pa_cons (pv 1) (pa_nil)))) (pa_cons (pv 1) (pa_cons (pv 2) (pa_cons (pe_non) (pa_cons (pv 3) (pa_nil))))))))
  (pss_one (ps_ret (pe_callTy (T := "tuple") (r := rTupOf K) call_tuple_of (by rfl) T.n_tuple (by decide +kernel) (pa_cons (pe_callB (cr_sortD encRow hr.units) (by rfl) T.n_sorted (by decide +kernel) (pa_cons (pe_lock (pe_lc (own := [("showing", 5), ("places", 6)]) (g := gTup K 2 (gCons (gName 5) (gCons (gName 6) (gNil)))) (tt := tYes) rfl c_open_lots.nd (pi_itemsT (pv 4)) (blkOk_by (by kernel_rfl)) (fun _ _ _ _ _ => pg_tup rfl (pgs_cons (pg_name (i := 5) c_open_lots.nd rfl (by first | exact Or.inl rfl | exact Or.inr rfl)) (pgs_cons (pg_name (i := 6) c_open_lots.nd rfl (by first | exact Or.inl rfl | exact Or.inr rfl)) (pgs_nil)))) (fun _ _ _ _ _ => pts_nil) (fun _ _ _ _ _ => pe_tup (pa_cons (pv 5) (pa_cons (pe_callTy (T := "tuple") (r := rTupOf K) call_tuple_of (by rfl) T.n_tuple (by decide +kernel) (pa_cons (pe_callB (id := "sorted") (r := rSortedI K) cr_sortedI (by rfl) T.n_sorted (by decide +kernel) (pa_cons (pe_callTy (T := "list") (r := rListD) (call_list_dK rfl) (by rfl) T.n_list (by decide +kernel) (pa_cons (pv 6) (pa_nil))) (pa_nil))) (pa_nil))) (pa_nil)))))) (pa_nil))) (pa_nil))))))), ?_⟩
  refine ⟨_, rfl, _, rfl, _, rfl, m, c, ts, n, first, rs, ss, rfl, ma, hf, co, hl, _, rfl, c, rs, ss, rfl, co, fun h0 => ?_, qR⟩
  obtain ⟨qA, qB⟩ := qF h0
  refine ⟨_, rfl, _, rfl, m, ts, n, first, rfl, ma, ok, hf, fun H1 mv sts s1 e1 clo => ?_⟩
  refine ⟨_, rfl, _, rfl, _, rfl, mv, c, .non, none, rs, ss, ts, sts, n, first, most, rfl, e1, co.same s1, .inl ⟨rfl, rfl⟩, by rw [hl]; exact ok.one, by rw [hl]; exact ok.four, hs, hl.symm, ok, clo, m1, m6, fun H2 r l ks s2 R2 Fu hlm => ?_, fun d H2 l s2 nd e2 n2 r2 hm => qB d H2 l (s1.trans s2) (s1.free nd) e2 n2 r2 hm⟩
  have s12 := s1.trans s2
  clear s1 s2 e1 clo
  have few := R2.few
  have hz : sizeLine = 16777216 := sizeLine_eq
  refine ⟨r, _, R2.at_, trivial, fun od => ⟨_, rfl, r, od, _, rfl, upd_same, fun D hD => ?_⟩⟩
  have hr2 := R2.at_
  generalize hK : upd H2 r (.frz od (.dT (ks.map fun q => (skey q.1, V.ref q.2)))) = HK at hD ⊢
  have rK : HK r = some (.frz od (.dT (ksV ks))) := by rw [← hK]; exact upd_same
  have oK : ∀ b, b ≠ r → HK b = H2 b := fun b nb => by rw [← hK]; exact upd_ne nb
  have tK : ∀ a xs, H2 a = some (.tup xs) → HK a = some (.tup xs) := fun a xs e => by rw [oK a (ne_of e hr2 fun z => by cases z)]; exact e
  have dK : ∀ a es, H2 a = some (.dK es) → HK a = some (.dK es) := fun a xs e => by rw [oK a (ne_of e hr2 fun z => by cases z)]; exact e
  have plK : ∀ q ∈ ks, PlAt HK q.2 (stOf l q.1) 40000 := fun q hq => (R2.pl q hq).keep (dK q.2) tK
  have fewV : (ksV ks).length = ks.length := by unfold ksV; rw [List.length_map]
  have nrD : D ≠ r := fun z => by rw [z, rK] at hD; cases hD
  refine lcE_it (E := E0') (J := fun _ => True) (n := ks.length) (R := fun i y H' => ∃ a q sts', y = .ref a ∧ ks[i]? = some q ∧ RowAt H' a (q.1, sts') ∧ sts'.Perm (stOf l q.1) ∧ sts'.Pairwise (· < ·))
    (fun i x H' => ∃ t q u, x = .ref t ∧ ks[i]? = some q ∧ H' t = some (.tup [.ref u, .ref q.2]) ∧ TN H' u q.1) hD (fun z => z) (by omega) trivial (fun _ _ _ => trivial) ?_ ?_ ?_ ?_ ?_ ?_
  · rintro i v H3 H4 _ ⟨ys, hys⟩ ⟨a, q, st', e1, e2, e3, e4, e5⟩ w34
    exact ⟨a, q, st', e1, e2, e3.keep fun a xs e => w34 _ _ (fun z => by
      rcases z with z | z
      · exact z
      · rw [z, hys] at e; cases e) e, e4, e5⟩
  · intro i H3 hi s3 _
    exact ⟨s3.same _ _ rK, by show i < (ksV ks).length; omega⟩
  · intro H3 s3 _
    exact ⟨s3.same _ _ rK, by show (ksV ks).length ≤ ks.length; omega⟩
  · rintro i H3 x H4 hi s3 _ ⟨t, kk, v, u, e1, rfl, nt, hu, rfl⟩
    obtain ⟨q, hq⟩ := get_lt hi
    have e1' : (ksV ks)[i]? = some (skey q.1, V.ref q.2) := by unfold ksV; rw [List.getElem?_map, hq]; rfl
    have e2 := e1.symm.trans e1'
    cases e2
    refine ⟨SmE.new .refl nt, trivial, t, q, u, rfl, hq, upd_same, ?_⟩
    rw [skey_kV] at hu
    exact Same.upd nt _ _ hu
  · rintro i x H3 kk hi ⟨t, q, u, rfl, hq, ht, hu⟩ s3 _ _ fin
    obtain ⟨es, hes, hk, _⟩ := plK q (List.mem_of_getElem? hq)
    have hes3 := s3.same _ _ hes
    refine ⟨t, _, rfl, SqT.of ht, rfl, _, _, rfl, _, _, rfl, rfl, rfl, ?_⟩
    refine ⟨_, rfl, _, rfl, q.2, es, rfl, hes3, fun a na => ?_⟩
    have s4 : Same H3 (upd H3 a (.lst (es.map fun kv => kV kv.1))) := Same.upd na
    refine ⟨a, intsOf (stOf l q.1), rfl, SqL.of (by rw [upd_same, keys_ints hk]), fun ns' p' pm pw np => ?_⟩
    obtain ⟨st', e1, e2, e3⟩ := keys_sorted hk (nodup_stOf Fu.nd q.1) pm pw
    have s5 := s4.trans (Same.upd np (o := .lst (ns'.map V.int)))
    refine ⟨p', _, rfl, .inl ⟨SqL.of upd_same, fun a2 na2 => ?_⟩⟩
    have s6 := s5.trans (Same.upd na2 (o := .tup (ns'.map V.int)))
    have h6 : TN (upd (upd (upd H3 a (.lst (es.map fun kv => kV kv.1))) p' (.lst (ns'.map V.int))) a2 (.tup (ns'.map V.int))) a2 st' := by
      show _ = _
      rw [upd_same, e1]
    generalize upd (upd (upd H3 a (.lst (es.map fun kv => kV kv.1))) p' (.lst (ns'.map V.int))) a2 (.tup (ns'.map V.int)) = H6 at s6 h6
    refine ⟨by show 2 ≤ sizeLine; decide, fun a7 na7 => ?_⟩
    have s7 : Same H6 (upd H6 a7 (.tup [.ref u, .ref a2])) := Same.upd na7
    exact fin _ _ (SmE.of (s6.trans s7)) trivial ⟨a7, q, st', rfl, hq, ⟨u, a2, upd_same, (hu.same s6).same s7, h6.same s7⟩, e2, e3⟩
  · intro H3 ys s3 _ hy ly ry
    have r3 := s3.same _ _ rK
    refine ⟨r3, ?_⟩
    obtain ⟨bs, lb, hb⟩ := exists_list (Q := fun i (y : V) (b : List Nat × List Nat) => ∃ a q, y = .ref a ∧ ks[i]? = some q ∧ RowAt H3 a b ∧ b.1 = q.1 ∧ b.2.Perm (stOf l q.1) ∧ b.2.Pairwise (· < ·)) fun i y hyi => by
      obtain ⟨a, q, st', e1, e2, e3, e4, e5⟩ := ry i y hyi
      exact ⟨(q.1, st'), a, q, e1, e2, e3, rfl, e4, e5⟩
    -- the lock is off
    have s4 : Same H2 (upd H3 r (.dT (ks.map fun q => (skey q.1, V.ref q.2)))) := fun b o e => by
      by_cases hbr : b = r
      · rw [hbr, hr2] at e
        rw [hbr, upd_same]
        exact e
      · rw [upd_ne hbr]
        exact s3.same _ _ (by rw [oK b hbr]; exact e)
    have t4 : ∀ a xs, H3 a = some (.tup xs) → (upd H3 r (.dT (ks.map fun q => (skey q.1, V.ref q.2)))) a = some (.tup xs) := fun a xs e => by
      rw [upd_ne (ne_of e r3 fun z => by cases z)]
      exact e
    have hy4 : (upd H3 r (.dT (ks.map fun q => (skey q.1, V.ref q.2)))) D = some (.lst ys) := by rw [upd_ne nrD]; exact hy
    generalize upd H3 r (.dT (ks.map fun q => (skey q.1, V.ref q.2))) = H4 at s4 t4 hy4 ⊢
    have pr : Paired (fun (x : V) b => ∃ a, x = .ref a ∧ RowAt H4 a b) ys bs := paired_of lb.symm fun i y b h1 h2 => by
      obtain ⟨a, q, e1, e2, e3, _⟩ := hb i y b h1 h2
      exact ⟨a, e1, e3.keep t4⟩
    have hbq : ∀ b ∈ bs, ∃ q ∈ ks, b.1 = q.1 ∧ b.2.Perm (stOf l q.1) ∧ b.2.Pairwise (· < ·) := fun b hb' => by
      obtain ⟨i, hi⟩ := List.mem_iff_getElem?.mp hb'
      obtain ⟨y, hy'⟩ := get_lt (show i < ys.length by have := (List.getElem?_eq_some_iff.mp hi).1; omega)
      obtain ⟨a, q, _, e2, _, e4, e5, e6⟩ := hb i y b hy' hi
      exact ⟨q, List.mem_of_getElem? e2, e4, e5, e6⟩
    have emap : bs.map (·.1) = ks.map (·.1) := by
      apply List.ext_getElem?
      intro i
      rw [List.getElem?_map, List.getElem?_map]
      by_cases hi : i < bs.length
      · obtain ⟨b, hb'⟩ := get_lt hi
        obtain ⟨y, hy'⟩ := get_lt (show i < ys.length by omega)
        obtain ⟨a, q, _, e2, _, e4, _⟩ := hb i y b hy' hb'
        rw [hb', e2]
        exact congrArg some e4
      · rw [List.getElem?_eq_none (by omega), List.getElem?_eq_none (by omega)]
        rfl
    have lots : Lots (Reach rs ss ts none first) (bs.mergeSort (PySem.W.dataLe false encRow)) := by
      refine lots_of Fu.all (by rw [emap]; exact R2.nd1) (fun b hb' => ?_) (fun p hp => ?_) (fun b hb' => ?_)
      · obtain ⟨q, hq, e1, e2, e3⟩ := hbq b hb'
        exact ⟨e3, fun s => by rw [e2.mem_iff, mem_stOf, e1]⟩
      · obtain ⟨d, hd⟩ := R2.all p hp
        have : p.1 ∈ bs.map (·.1) := by rw [emap]; exact List.mem_map.mpr ⟨_, hd, rfl⟩
        obtain ⟨b, hb', e⟩ := List.mem_map.mp this
        exact ⟨b, hb', e⟩
      · obtain ⟨q, hq, e1, _⟩ := hbq b hb'
        obtain ⟨p, hp, e2⟩ := R2.non q hq
        exact ⟨p, hp, e2.trans e1.symm⟩
    refine ⟨D, ys, bs, _, rfl, SqL.of hy4, pr, fun x b ⟨a, e1, e2⟩ => by rw [e1]; exact dp_row e2, ok_rows bs (by omega), fun p' ys' np pr' => ?_⟩
    have s5 : Same H4 (upd H4 p' (.lst ys')) := Same.upd np
    refine ⟨p', ys', rfl, .inl ⟨SqL.of upd_same, fun p2 np2 => ?_⟩⟩
    have s6 := s5.trans (Same.upd np2 (o := .tup ys'))
    obtain ⟨as, eas⟩ := refs_of (ys := ys') fun i y e => by
      obtain ⟨b, _, a, e1, _⟩ := paired_at' pr' e
      exact ⟨a, e1⟩
    subst eas
    refine qA _ p2 l _ ((s12.trans s4).trans s6) Fu hlm ⟨as, upd_same, paired_of ?_ fun i a b h1 h2 => ?_⟩ lots
    · have := Paired.length pr'
      rw [List.length_map] at this
      exact this
    · obtain ⟨b', hb', a', e1, e2⟩ := paired_at' pr' (refs_at h1)
      rw [h2] at hb'
      cases hb'
      cases e1
      exact e2.keep fun a xs e => s6 _ _ e
end
end Ow

/-! ## W14 -/
set_option Elab.async false
set_option linter.all false
set_option maxRecDepth 100000
set_option maxHeartbeats 8000000
/-! open_lot, needed_values -/
namespace Ow
open PySem PySem.Spec PyProof.Rows L2
section
variable {P : Program} {w : World} {K : PySem.W.Frag} {mg : Str → Option Value} {base : Heap} {cC cM cT cG cR : Addr}
def spLot (cC cM cG : Addr) : Sp := fun vs H Q E => ∃ (m c b : Addr) (ts : List (List Nat)) (n first most : Nat) (rs ss sh : List Nat), vs = [.ref m, nV first, .ref c, .ref b, nV most] ∧ MaAt cM H m ts n ∧ TbOk ts n ∧ first < n ∧ CoAt cC H c rs ss ∧ rs.length = ts.length ∧ ss.length = rs.length ∧ 1 ≤ most ∧ most ≤ 6000 ∧ SqN H b sh ∧ ShOk rs ss sh ∧
  (∀ H' p l st, Same H H' → Full rs ss ts (some sh) first l → l.length ≤ most → TN H' p st → st.Pairwise (· < ·) → (∀ s, s ∈ st ↔ Reach rs ss ts (some sh) first (sh, s)) → Q (.ref p) H') ∧
  (∀ d H' (l : List Pl), Same H H' → H d = none → H' d = some (.xd [("most", nV most)]) → l.Nodup → (∀ p ∈ l, Reach rs ss ts (some sh) first p) → most < l.length → E (.ref cG) (some d) H')
theorem ok_open_lot {f : Addr} {fd : FuncData} (F : Fun K "open_lot" "open_lot" s_open_lot f fd) (T : Tx mg) (C_need_kept : Cl P w K mg base CX0 5 "need_kept" ["machine", "first", "counters"] (spKept cC cM) [])
    (C_check_showing : Cl P w K mg base CX0 5 "check_showing" ["counters", "value"] (spChSh cC) []) (C_moves_of : Cl P w K mg base CX0 6 "moves_of" ["machine", "first"] (spMoves cM) [])
    (C_walked : Cl P w K mg base (L2.CX P w) 5 "walked" ["moves", "start", "counters", "limit", "most"] (spWalked cC cG) []) : FnOk P w K mg base (L2.CX P w) 7 f fd ["machine", "first", "counters", "showing", "most"] (spLot cC cM cG) := by
  refine F.okX c_open_lot (fun vs H Q E h => ?_) (fun cdv A outer s H vs Q E hr h => ?_)
  · obtain ⟨m, c, b, ts, n, first, most, rs, ss, sh, rfl, _⟩ := h
    rfl
  obtain ⟨m, c, b, ts, n, first, most, rs, ss, sh, rfl, ma, ok, hf, co, hl, hs, m1, m6, hb, hsh, qA, qB⟩ := h
  refine ⟨_, pss_cons (ps_expr (pe_cl C_need_kept (hr.mono (by decide)) pass0 rfl (pa_cons (pv 0) (pa_cons (pv 1) (pa_cons (pv 2) (pa_nil))))))
  (pss_cons (ps_set (i := 5) c_open_lot.nd rfl (Or.inl rfl) (pe_cl C_check_showing (hr.mono (by decide)) pass0 rfl (pa_cons (pv 2) (pa_cons (pv 3) (pa_nil)))))
  (pss_cons (ps_set (i := 6) c_open_lot.nd rfl (Or.inl rfl) (pe_cl C_walked (hr.mono (by decide)) (passX (takes_of rfl rfl rfl rfl) (fun _ _ _ _ h => h)) rfl (pa_cons (pe_cl C_moves_of (hr.mono (by decide)) pass0 rfl (pa_cons (pv 0) (pa_cons (pv 1) (pa_nil)))) (pa_cons (pv 1) (pa_cons (pv 2) (pa_cons (pv 5) (pa_cons (pv 4) (pa_nil))))))))
  (pss_one (ps_ret (pe_callTy (T := "tuple") (r := rTupOf K) call_tuple_of (by rfl) T.n_tuple (by decide +kernel) (pa_cons (pe_callB (id := "sorted") (r := rSortedI K) cr_sortedI (by rfl) T.n_sorted (by decide +kernel) (pa_cons (pe_callTy (T := "list") (r := rListD) (call_list_dK rfl) (by rfl) T.n_list (by decide +kernel) (pa_cons (pe_dget2 (hu_of hr) (pv 6) (pv 5) (pe_dnewK) (by exact ⟨rfl, rfl, rfl, rfl⟩)) (pa_nil))) (pa_nil))) (pa_nil))))))), ?_⟩
  refine ⟨_, rfl, _, rfl, _, rfl, m, c, ts, n, first, rs, ss, rfl, ma, hf, co, hl, _, rfl, _, rfl, c, b, rs, ss, sh, rfl, co, by rw [hl]; exact ok.four, hs, hb, hsh, fun H0 t s0 e0 => ?_⟩
  refine ⟨_, rfl, _, rfl, m, ts, n, first, rfl, ma.same s0, ok, hf, fun H1 mv sts s1 e1 clo => ?_⟩
  refine ⟨_, rfl, _, rfl, _, rfl, _, rfl, mv, c, .ref t, some sh, rs, ss, ts, sts, n, first, most, rfl, e1, (co.same s0).same s1, .inr ⟨t, sh, rfl, rfl, e0.same s1, hsh.1⟩, by rw [hl]; exact ok.one, by rw [hl]; exact ok.four, hs, hl.symm, ok, clo, m1, m6, fun H2 r l ks s2 R2 Fu hlm => ?_, fun d H2 l s2 nd e2 n2 r2 hm => qB d H2 l ((s0.trans s1).trans s2) ((s0.trans s1).free nd) e2 n2 r2 hm⟩
  have s12 := (s0.trans s1).trans s2
  have e2 := (e0.same s1).same s2
  refine ⟨_, rfl, r, rfl, .inr ⟨_, .inl R2.at_⟩, _, rfl, fun z nz => ?_⟩
  have s3 : Same H2 (upd H2 z (.dK [])) := Same.upd nz
  have z3 : (upd H2 z (.dK [])) z = some (.dK []) := upd_same
  have e3 := e2.same s3
  have R3 := R2.keep (H' := upd H2 z (.dK [])) (fun es e => s3 _ _ e) (fun q _ es e => s3 _ _ e) fun a xs e => s3 _ _ e
  generalize upd H2 z (.dK []) = H3 at s3 z3 e3 R3 ⊢
  have dg := DGet.t (k := skey sh) R3.at_ (show H3 t = some (.tup ((skey sh).map kV)) by rw [skey_kV]; exact e3)
  refine ⟨_, dg, ?_⟩
  obtain ⟨dd, es, edd, hes, hk⟩ : ∃ dd es, (valV (ksV ks) (skey sh)).getD (V.ref z) = .ref dd ∧ H3 dd = some (.dK es) ∧ es.map (·.1) = (stOf l sh).map kN := by
    cases e : valV (ksV ks) (skey sh) with
    | none =>
      have hno := ks_none e
      refine ⟨z, [], rfl, z3, ?_⟩
      rw [stOf_nil fun p' hp' e' => by
        obtain ⟨d, hd⟩ := R3.all p' hp'
        exact hno _ hd e']
      rfl
    | some v =>
      obtain ⟨d, hd, rfl⟩ := ks_of e
      obtain ⟨es, h1, h2, _⟩ := R3.pl _ hd
      exact ⟨d, es, rfl, h1, h2⟩
  refine ⟨dd, es, by rw [← edd], hes, fun a na => ?_⟩
  have s4 : Same H3 (upd H3 a (.lst (es.map fun kv => kV kv.1))) := Same.upd na
  refine ⟨a, intsOf (stOf l sh), rfl, SqL.of (by rw [upd_same, keys_ints hk]), fun ns' p' pm pw np => ?_⟩
  obtain ⟨st', e1', e2', e3'⟩ := keys_sorted hk (nodup_stOf Fu.nd sh) pm pw
  have s5 := s4.trans (Same.upd np (o := .lst (ns'.map V.int)))
  refine ⟨p', _, rfl, .inl ⟨SqL.of upd_same, fun a2 na2 => ?_⟩⟩
  have s6 := s5.trans (Same.upd na2 (o := .tup (ns'.map V.int)))
  refine qA _ a2 l st' ((s12.trans s3).trans s6) Fu hlm ?_ e3' fun s => ?_
  · show _ = _
    rw [upd_same, e1']
  · rw [e2'.mem_iff, mem_stOf, Fu.all]
def spNeed (cC cM cG cR : Addr) : Sp := fun vs H Q E => ∃ (m c : Addr) (ts : List (List Nat)) (n first most : Nat) (rs ss : List Nat), vs = [.ref m, nV first, .ref c, nV most] ∧ MaAt cM H m ts n ∧ TbOk ts n ∧ first < n ∧ CoAt cC H c rs ss ∧ rs.length = ts.length ∧ ss.length = rs.length ∧ 1 ≤ most ∧ most ≤ 6000 ∧
  (0 ∉ rs → (∀ H' l L g, Same H H' → Full rs ss ts none first l → l.length ≤ most → Lots (Reach rs ss ts none first) L → (∃ q ∈ L, q.2.length = g) → (∀ q ∈ L, q.2.length ≤ g) → Q (nV g) H') ∧
    (∀ d H' (l : List Pl), Same H H' → H d = none → H' d = some (.xd [("most", nV most)]) → l.Nodup → (∀ p ∈ l, Reach rs ss ts none first p) → most < l.length → E (.ref cG) (some d) H')) ∧
  (0 ∈ rs → ∀ d H', Same H H' → H d = none → H' d = some (.xd [("at", .ref c)]) → E (.ref cR) (some d) H')
abbrev gApp : List V → List V → List V := fun vs zs => vs ++ zs
theorem ok_needed_values {f : Addr} {fd : FuncData} (F : Fun K "needed_values" "needed_values" s_needed_values f fd) (T : Tx mg)
    (C_open_lots : ClK P w K mg base (L2.CX P w) 7 "open_lots" ["machine", "first", "counters", "most"] 3 ["most"] gApp (spLots cC cM cG cR)) : FnOk P w K mg base (L2.CX P w) 8 f fd ["machine", "first", "counters", "most"] (spNeed cC cM cG cR) := by
  refine F.okX c_needed_values (fun vs H Q E h => ?_) (fun cdv A outer s H vs Q E hr h => ?_)
  · obtain ⟨m, c, ts, n, first, most, rs, ss, rfl, _⟩ := h
    rfl
  obtain ⟨m, c, ts, n, first, most, rs, ss, rfl, ma, ok, hf, co, hl, hs, m1, m6, qF, qR⟩ := h
  refine ⟨_, pss_one (ps_ret (pe_callB (cr_max rfl) (by rfl) T.n_max (by decide +kernel) (pa_cons (pe_lc (own := [("showing", 4), ("states", 5)]) (g := gTup K 2 (gCons (gName 4) (gCons (gName 5) (gNil)))) (tt := tYes) rfl c_needed_values.nd (pi_tupK K (pe_clK C_open_lots (hr.mono (by decide)) (passX (takes_of rfl rfl rfl rfl) (fun _ _ _ _ h => h)) rfl (pa_cons (pv 0) (pa_cons (pv 1) (pa_cons (pv 2) (pa_nil)))) (pk_cons (pv 3) (pk_nil)))) (blkOk_by (by kernel_rfl)) (fun _ _ _ _ _ => pg_tup rfl (pgs_cons (pg_name (i := 4) c_needed_values.nd rfl (by first | exact Or.inl rfl | exact Or.inr rfl)) (pgs_cons (pg_name (i := 5) c_needed_values.nd rfl (by first | exact Or.inl rfl | exact Or.inr rfl)) (pgs_nil)))) (fun _ _ _ _ _ => pts_nil) (fun _ _ _ _ _ => pe_callB (id := "len") (r := rLenOf K) call_len_seq (by rfl) T.n_len (by decide +kernel) (pa_cons (pv 5) (pa_nil)))) (pa_nil)))), ?_⟩
  refine ⟨_, rfl, _, rfl, _, rfl, _, rfl, rfl, rfl, m, c, ts, n, first, most, rs, ss, rfl, ma, ok, hf, co, hl, hs, m1, m6, fun h0 => ⟨fun H1 p l L s1 Fu hlm hL lots => ?_, (qF h0).2⟩, qR⟩
  obtain ⟨as, ha, hp⟩ := hL
  have hal : as.length = L.length := Paired.length hp
  have hz : sizeLine = 16777216 := sizeLine_eq
  have hLl : L.length ≤ l.length := by
    have nd : (L.map (·.1)).Nodup := by
      unfold List.Nodup
      rw [List.pairwise_map]
      refine lots.srt.imp ?_
      intro a b h e
      have e' : a.1 = b.1 := e
      have h' : sltL a.1 b.1 := h
      rw [e'] at h'
      exact sltL_irr _ h'
    have := nodup_le (L.map (·.1)) (l.map (·.1)) nd fun sh hs => by
      obtain ⟨q, hq, rfl⟩ := List.mem_map.mp hs
      obtain ⟨s, hs⟩ := List.exists_mem_of_ne_nil _ (lots.non q hq)
      exact List.mem_map.mpr ⟨(q.1, s), (Fu.all _).mpr ((lots.mem q hq s).mp hs), rfl⟩
    simpa using this
  refine ⟨p, rfl, ⟨_, SqT.of ha⟩, fun D hD => lcE_tup (E := E0') (J := fun _ => True) (R := fun i y _ => ∃ q, L[i]? = some q ∧ y = nV q.2.length) hD (fun z => z) (by rw [List.length_map]; omega) trivial (fun _ _ _ => trivial) (fun H2 s2 _ => SqT.of (s2.same _ _ ha)) (fun _ _ _ _ _ _ e _ => e) ?_ ?_⟩
  · intro i x H2 kk hx s2 _ _ fin
    obtain ⟨a, hia, rfl⟩ := refs_back hx
    obtain ⟨q, hq, u, v, h1, h2, h3⟩ := paired_at' hp hia
    refine ⟨a, _, rfl, SqT.of (s2.same _ _ h1), rfl, _, _, rfl, _, _, rfl, rfl, rfl, ?_⟩
    refine ⟨_, rfl, v, _, rfl, .inr (TN.sq (h3.same s2.same)), ?_⟩
    refine fin _ _ .refl trivial ⟨q, hq, ?_⟩
    rw [nVs_len]
  · intro H2 ys s2 _ hy ly ry
    rw [List.length_map, hal] at ly
    have ey : ys = (L.map fun q => ((q.2.length : Nat) : Int)).map V.int := by
      apply List.ext_getElem?
      intro i
      rw [List.map_map, List.getElem?_map]
      by_cases hi : i < L.length
      · obtain ⟨y, hy'⟩ := get_lt (show i < ys.length by omega)
        obtain ⟨q, hq, e⟩ := ry i y hy'
        rw [hy', hq, e]
        rfl
      · rw [List.getElem?_eq_none (by omega), List.getElem?_eq_none (by omega)]
        rfl
    have hpos : 0 < L.length := by
      obtain ⟨q, hq, _⟩ := lots.all _ (Reach.start (rs := rs) (ss := ss) (ts := ts) (lim := none) (start := first))
      exact List.length_pos_of_mem hq
    refine ⟨D, L.map fun q => ((q.2.length : Nat) : Int), rfl, SqL.of (by rw [hy, ey]), by rw [List.length_map]; exact hpos, fun g hg hle => ?_⟩
    obtain ⟨q, hq, eg⟩ := List.mem_map.mp hg
    subst eg
    exact (qF h0).1 H2 l L q.2.length (s1.trans s2.same) Fu hlm lots ⟨q, hq, rfl⟩ fun q' hq' => by
      have := hle _ (List.mem_map.mpr ⟨q', hq', rfl⟩)
      omega
end
end Ow

/-! ## W15 -/
set_option Elab.async false
set_option linter.all false
set_option maxRecDepth 100000
set_option maxHeartbeats 8000000
/-! The law's own: the box and what is drawn from it -/
namespace Ow
open PySem PySem.Spec PyProof.Rows L2
abbrev s_law_box : Stmt := topS 46
theorem c_law_box : FnScope ["_law_script", "_law_k", "_law_cell", "_law_great"] ["_law_script", "_law_k"] (defScope s_law_box) := ⟨rfl, rfl, rfl, by decide +kernel, rfl, by decide +kernel, by decide +kernel⟩
abbrev s_law_take : Stmt := topS 47
theorem c_law_take : FnScope ["_law_box_here", "_law_many", "_law_digit", "_law_raw"] ["_law_box_here", "_law_many"] (defScope s_law_take) := ⟨rfl, rfl, rfl, by decide +kernel, rfl, by decide +kernel, by decide +kernel⟩
abbrev s_law_pick : Stmt := topS 48
theorem c_law_pick : FnScope ["_law_box_here", "_law_some"] ["_law_box_here", "_law_some"] (defScope s_law_pick) := ⟨rfl, rfl, rfl, by decide +kernel, rfl, by decide +kernel, by decide +kernel⟩
abbrev s_law_mixed : Stmt := topS 49
theorem c_law_mixed : FnScope ["_law_box_here", "_law_many", "_law_found", "_law_left", "_law_turn"] ["_law_box_here", "_law_many"] (defScope s_law_mixed) := ⟨rfl, rfl, rfl, by decide +kernel, rfl, by decide +kernel, by decide +kernel⟩
abbrev s_law_shown : Stmt := topS 53
theorem c_law_shown : FnScope ["_law_turn", "_law_rest", "_law_many"] ["_law_turn", "_law_rest", "_law_many"] (defScope s_law_shown) := ⟨rfl, rfl, rfl, by decide +kernel, rfl, by decide +kernel, by decide +kernel⟩

/-- the box at b -/
def Bx (H : Hp) (b : Addr) : Prop := ∃ x y : Int, H b = some (.lst [.int x, .int y])
theorem Bx.same {H H' : Hp} {b : Addr} (h : Bx H b) (s : Same H H') : Bx H' b := let ⟨x, y, e⟩ := h; ⟨x, y, s _ _ e⟩
theorem Bx.ne {H : Hp} {b p : Addr} (h : Bx H b) (n : H p = none) : b ≠ p := let ⟨_, _, e⟩ := h; ne_of_none e n
theorem mul_r {i j : Int} (h : -(2 ^ 64) < j ∧ j < 2 ^ 64) : CMul i j := .inr h
section
variable {P : Program} {w : World} {K : PySem.W.Frag} {mg : Str → Option Value} {base : Heap}
def spBox (K : PySem.W.Frag) : Sp := fun vs H Q _ => ∃ (a : Addr) (ns : List Int) (k : Nat), vs = [.ref a, nV k] ∧ SqL K H a (ns.map V.int) ∧ k ≤ 2 ∧ ∀ H' p, Same H H' → H p = none → Bx H' p → Q (.ref p) H'
theorem ok_law_box {f : Addr} {fd : FuncData} (F : Fun K "_law_box" "_law_box" s_law_box f fd) (T : Tx mg) : FnOk P w K mg base CX0 1 f fd ["_law_script", "_law_k"] (spBox K) := by
  refine F.ok c_law_box (fun vs H Q E h => ?_) (fun cdv A outer s H vs Q E hr h => ?_)
  · obtain ⟨a, ns, k, rfl, _⟩ := h
    rfl
  obtain ⟨a, ns, k, rfl, hS, hk, q⟩ := h
  refine ⟨_, pss_cons (ps_set (i := 2) c_law_box.nd rfl (Or.inl rfl) (pe_op op_add (pe_op op_mul (pe_int) (pv 1)) (pe_int)))
  (pss_cons (ps_if (pt_cmpR op_lt (pv 1) (pe_callB (id := "len") (r := rLenOf K) call_len_seq (by rfl) T.n_len (by decide +kernel) (pa_cons (pv 0) (pa_nil))) (nomark _)) (pss_one (ps_set (i := 2) c_law_box.nd rfl (Or.inl rfl) (pe_callB call_abs (by rfl) T.n_abs (by decide +kernel) (pa_cons (pe_callTy call_int1 (by rfl) T.n_int (by decide +kernel) (pa_cons (pe_ix (r := rIxL K) ix_list (pv 0) (pv 1) (fun _ _ => rfl)) (pa_nil))) (pa_nil)))))
    (pss_one (ps_if (pt_cmpR op_gt (pe_callB (id := "len") (r := rLenOf K) call_len_seq (by rfl) T.n_len (by decide +kernel) (pa_cons (pv 0) (pa_nil))) (pe_int) (nomark _)) (pss_one (ps_set (i := 2) c_law_box.nd rfl (Or.inl rfl) (pe_op op_add (pv 2) (pe_op op_mul (pe_op op_mod (pe_callTy call_int1 (by rfl) T.n_int (by decide +kernel) (pa_cons (pe_callB call_abs (by rfl) T.n_abs (by decide +kernel) (pa_cons (pe_callTy call_int1 (by rfl) T.n_int (by decide +kernel) (pa_cons (pe_ix (r := rIxL K) ix_list (pv 0) (pe_op op_mod (pe_callTy call_int1 (by rfl) T.n_int (by decide +kernel) (pa_cons (pv 1) (pa_nil))) (pe_callB (id := "len") (r := rLenOf K) call_len_seq (by rfl) T.n_len (by decide +kernel) (pa_cons (pv 0) (pa_nil)))) (fun _ _ => rfl)) (pa_nil))) (pa_nil))) (pa_nil))) (pe_int)) (pe_int)))))
    (pss_nil))))
  (pss_cons (ps_set (i := 3) c_law_box.nd rfl (Or.inl rfl) (pe_ifExp (pt_cmpR op_ge (pv 2) (pe_op op_pow (pe_int) (pe_int)) (nomark _)) (pv 2) (pe_int)))
  (pss_one (ps_ret (pe_lst (pa_cons (pv 3) (pa_cons (pe_op op_add (pe_op op_mod (pe_callTy call_int1 (by rfl) T.n_int (by decide +kernel) (pa_cons (pe_op op_add (pe_op op_mul (pe_op op_mod (pe_callTy call_int1 (by rfl) T.n_int (by decide +kernel) (pa_cons (pv 2) (pa_nil))) (pe_int)) (pe_int)) (pe_op op_mul (pe_int) (pv 1))) (pa_nil))) (pe_int)) (pe_int)) (pa_nil)))))))), ?_⟩
  have hlen : (ns.map V.int).length = ns.length := List.length_map ..
  refine ⟨_, rfl, _, _, rfl, rfl, mul_r (by omega), _, _, rfl, rfl, ?_⟩
  refine ⟨_, rfl, _, rfl, a, _, rfl, .inl hS, _, _, rfl, rfl, _, rfl, ite2 (fun h1 => ?_) fun h1 => ?_⟩
  · have h2 : k < ns.length := by
      have := of_decide_eq_true h1
      rw [hlen] at this
      omega
    obtain ⟨z, hz⟩ := get_lt h2
    refine ⟨_, rfl, _, rfl, _, _, _, _, rfl, rfl, hS, atI_nat (by rw [List.getElem?_map, hz]; rfl), .inl ⟨_, rfl, _, rfl, ?_⟩⟩
    refine ⟨_, rfl, _, _, rfl, rfl, ⟨by decide, by decide, by decide⟩, _, _, rfl, rfl, _, rfl, ite2 (fun _ => ⟨_, rfl, ?_⟩) fun _ => ?_⟩
    all_goals
      refine ⟨_, rfl, _, rfl, .inl ⟨_, rfl, _, _, rfl, rfl, by show (0 : Int) < 2147483587; decide, _, _, rfl, rfl, mul_r (by decide), _, rfl, _, _, rfl, rfl, mul_r (by omega), _, _, rfl, rfl, .inl ⟨_, rfl, _, _, rfl, rfl, by show (0 : Int) < 2147483587; decide, _, _, rfl, rfl, by show 2 ≤ sizeLine; decide, fun p np => ?_⟩⟩⟩
      exact q _ p (Same.upd np) np ⟨_, _, upd_same⟩
  · refine ⟨_, rfl, a, _, rfl, .inl hS, _, _, rfl, rfl, _, rfl, ite2 (fun h3 => ?_) fun h3 => ?_⟩
    · have hpos : 0 < ns.length := by
        have := of_decide_eq_true h3
        rw [hlen] at this
        omega
      have hm : k % ns.length < ns.length := Nat.mod_lt _ hpos
      obtain ⟨z, hz⟩ := get_lt hm
      refine ⟨_, rfl, _, rfl, _, rfl, .inl ⟨_, rfl, _, rfl, a, _, rfl, .inl hS, _, _, rfl, rfl, by show (0 : Int) < ((ns.map V.int).length : Nat); rw [hlen]; omega, _, _, _, V.int z, rfl, rfl, hS, ?_, ?_⟩⟩
      · have e : ((k : Nat) : Int) % (((ns.map V.int).length : Nat) : Int) = ((k % ns.length : Nat) : Int) := by rw [hlen]; rfl
        show atI _ (((k : Nat) : Int) % (((ns.map V.int).length : Nat) : Int)) = _
        rw [e]
        exact atI_nat (by rw [List.getElem?_map, hz]; rfl)
      refine .inl ⟨_, rfl, _, rfl, .inl ⟨_, rfl, _, _, rfl, rfl, by show (0 : Int) < 2147483587; decide, _, _, rfl, rfl, mul_r (by decide), _, _, rfl, rfl, ?_⟩⟩
      refine ⟨_, rfl, _, _, rfl, rfl, ⟨by decide, by decide, by decide⟩, _, _, rfl, rfl, _, rfl, ite2 (fun _ => ⟨_, rfl, ?_⟩) fun _ => ?_⟩
      all_goals
        refine ⟨_, rfl, _, rfl, .inl ⟨_, rfl, _, _, rfl, rfl, by show (0 : Int) < 2147483587; decide, _, _, rfl, rfl, mul_r (by decide), _, rfl, _, _, rfl, rfl, mul_r (by omega), _, _, rfl, rfl, .inl ⟨_, rfl, _, _, rfl, rfl, by show (0 : Int) < 2147483587; decide, _, _, rfl, rfl, by show 2 ≤ sizeLine; decide, fun p np => ?_⟩⟩⟩
        exact q _ p (Same.upd np) np ⟨_, _, upd_same⟩
    · refine ⟨_, rfl, _, _, rfl, rfl, ⟨by decide, by decide, by decide⟩, _, _, rfl, rfl, _, rfl, ite2 (fun _ => ⟨_, rfl, ?_⟩) fun _ => ?_⟩
      all_goals
        refine ⟨_, rfl, _, rfl, .inl ⟨_, rfl, _, _, rfl, rfl, by show (0 : Int) < 2147483587; decide, _, _, rfl, rfl, mul_r (by decide), _, rfl, _, _, rfl, rfl, mul_r (by omega), _, _, rfl, rfl, .inl ⟨_, rfl, _, _, rfl, rfl, by show (0 : Int) < 2147483587; decide, _, _, rfl, rfl, by show 2 ≤ sizeLine; decide, fun p np => ?_⟩⟩⟩
        exact q _ p (Same.upd np) np ⟨_, _, upd_same⟩
end
end Ow

/-! ## W16 -/
set_option Elab.async false
set_option linter.all false
set_option maxRecDepth 100000
set_option maxHeartbeats 8000000
/-! take, pick, mixed, shown -/
namespace Ow
open PySem PySem.Spec PyProof.Rows L2
/-- the box as it was changed; all else stays -/
theorem SameX.set {H : Hp} {b : Addr} {o : HO} : SameX b H (upd H b o) := SmE.updE .refl rfl
theorem modNat (x : Int) {m : Nat} (h : 1 ≤ m) : ∃ d : Nat, d < m ∧ x % ((m : Nat) : Int) = ((d : Nat) : Int) :=
  ⟨(x % (m : Int)).toNat, by have := Int.emod_lt_of_pos x (show (0 : Int) < m by omega); have := Int.emod_nonneg x (show (m : Int) ≠ 0 by omega); omega, by have := Int.emod_nonneg x (show (m : Int) ≠ 0 by omega); omega⟩
theorem SmE.bx {E : Addr → Prop} {H H' : Hp} {b : Addr} (s : SmE E H H') (h : Bx H b) (n : ¬ E b) : Bx H' b := let ⟨x, y, e⟩ := h; ⟨x, y, s _ _ n e⟩
theorem Bx.ne_upd {H : Hp} {b p : Addr} {o : HO} (h : Bx H b) (n : b ≠ p) : Bx (upd H p o) b := by
  obtain ⟨x, y, e⟩ := h
  exact ⟨x, y, by rw [upd_ne n]; exact e⟩
theorem nVs_erase : ∀ (l : List Nat) (d : Nat), (nVs l).eraseIdx d = nVs (l.eraseIdx d)
  | [], _ => rfl
  | _ :: _, 0 => rfl
  | x :: l, d + 1 => by
    show nV x :: (nVs l).eraseIdx d = nV x :: nVs (l.eraseIdx d)
    rw [nVs_erase l d]
section
variable {P : Program} {w : World} {K : PySem.W.Frag} {mg : Str → Option Value} {base : Heap}
/-- many is taken out of the box -/
def spTake : Sp := fun vs H Q _ => ∃ (b : Addr) (m : Nat), vs = [.ref b, nV m] ∧ Bx H b ∧ 1 ≤ m ∧ m ≤ 5000 ∧ ∀ d H', d < m → SameX b H H' → Bx H' b → Q (nV d) H'
theorem ok_law_take {f : Addr} {fd : FuncData} (F : Fun K "_law_take" "_law_take" s_law_take f fd) (T : Tx mg) : FnOk P w K mg base CX0 1 f fd ["_law_box_here", "_law_many"] (spTake) := by
  refine F.ok c_law_take (fun vs H Q E h => ?_) (fun cdv A outer s H vs Q E hr h => ?_)
  · obtain ⟨b, m, rfl, _⟩ := h
    rfl
  obtain ⟨b, m, rfl, ⟨x, y, hb⟩, m1, m2, q⟩ := h
  refine ⟨_, pss_cons (ps_if (pt_cmpR op_gt (pe_ix (r := rIxL K) ix_list (pv 0) (pe_int) (fun _ _ => rfl)) (pe_int) (nomark _)) (pss_cons (ps_set (i := 2) c_law_take.nd rfl (Or.inl rfl) (pe_op op_mod (pe_callTy call_int1 (by rfl) T.n_int (by decide +kernel) (pa_cons (pe_ix (r := rIxL K) ix_list (pv 0) (pe_int) (fun _ _ => rfl)) (pa_nil))) (pv 1)))
  (pss_cons (ps_asg (pe_op op_fdiv (pe_ix (r := rIxL K) ix_list (pv 0) (pe_int) (fun _ _ => rfl)) (pv 1)) (pg_sub (pv 0) (pe_int) set_list))
  (pss_one (ps_ret (pv 2)))))
    (pss_nil))
  (pss_cons (ps_set (i := 3) c_law_take.nd rfl (Or.inl rfl) (pe_op op_mod (pe_callTy call_int1 (by rfl) T.n_int (by decide +kernel) (pa_cons (pe_op op_add (pe_op op_mul (pe_ix (r := rIxL K) ix_list (pv 0) (pe_int) (fun _ _ => rfl)) (pe_int)) (pe_int)) (pa_nil))) (pe_int)))
  (pss_cons (ps_asg (pe_op op_add (pe_op op_mod (pe_callTy call_int1 (by rfl) T.n_int (by decide +kernel) (pa_cons (pe_op op_add (pe_op op_mul (pv 3) (pe_int)) (pe_int)) (pa_nil))) (pe_int)) (pe_int)) (pg_sub (pv 0) (pe_int) set_list))
  (pss_one (ps_ret (pe_op op_mod (pe_callTy call_int1 (by rfl) T.n_int (by decide +kernel) (pa_cons (pe_op op_fdiv (pe_op op_add (pe_op op_mul (pv 3) (pe_int)) (pe_ix (r := rIxL K) ix_list (pv 0) (pe_int) (fun _ _ => rfl))) (pe_int)) (pa_nil))) (pv 1)))))), ?_⟩
  have S0 : SqL K H b [V.int x, V.int y] := SqL.of hb
  have mpos : (0 : Int) < ((m : Nat) : Int) := by omega
  have key : ∀ (z : Int) H', SameX b H H' → Bx H' b → Q (V.int (z % ((m : Nat) : Int))) H' := fun z H' s1 b1 => by
    obtain ⟨d, hd, ed⟩ := modNat z m1
    rw [ed]
    exact q d H' hd s1 b1
  refine ⟨_, rfl, _, _, _, _, rfl, rfl, S0, rfl, _, _, rfl, rfl, _, rfl, ite2 (fun _ => ?_) fun _ => ?_⟩
  · refine ⟨_, rfl, _, _, _, _, rfl, rfl, S0, rfl, .inl ⟨_, rfl, _, rfl, _, _, rfl, rfl, mpos, _, rfl, _, _, _, _, rfl, rfl, S0, rfl, _, rfl, _, _, rfl, rfl, ?_, _, rfl, _, _, _, _, rfl, rfl, hb, rfl, _, rfl, ?_⟩⟩
    · exact ⟨by omega, by omega⟩
    · exact key _ _ SameX.set ⟨_, _, upd_same⟩
  · refine ⟨_, rfl, _, _, _, _, rfl, rfl, S0, rfl, _, _, rfl, rfl, .inr ⟨by decide, by decide⟩, _, _, rfl, rfl, .inl ⟨_, rfl, _, _, rfl, rfl, by show (0 : Int) < 2147483399; decide, ?_⟩⟩
    refine ⟨_, rfl, _, _, rfl, rfl, .inr ⟨by decide, by decide⟩, _, _, rfl, rfl, .inl ⟨_, rfl, _, _, rfl, rfl, by show (0 : Int) < 2147483587; decide, _, _, rfl, rfl, _, rfl, _, _, _, _, rfl, rfl, hb, rfl, ?_⟩⟩
    refine ⟨_, rfl, _, _, rfl, rfl, .inr ⟨by decide, by decide⟩, _, rfl, _, _, _, _, rfl, rfl, SqL.of upd_same, rfl, _, _, rfl, rfl, _, _, rfl, rfl, ⟨by decide, by decide⟩, .inl ⟨_, rfl, _, rfl, _, _, rfl, rfl, mpos, ?_⟩⟩
    exact key _ _ SameX.set ⟨_, _, upd_same⟩
/-- one of a list is picked -/
def spPick : Sp := fun vs H Q _ => ∃ (b a : Addr) (l : List Nat), vs = [.ref b, .ref a] ∧ Bx H b ∧ a ≠ b ∧ LN H a l ∧ 1 ≤ l.length ∧ l.length ≤ 5000 ∧ ∀ d H', d ∈ l → SameX b H H' → Bx H' b → Q (nV d) H'
theorem ok_law_pick {f : Addr} {fd : FuncData} (F : Fun K "_law_pick" "_law_pick" s_law_pick f fd) (T : Tx mg) (C_law_take : Cl P w K mg base CX0 1 "_law_take" ["_law_box_here", "_law_many"] (spTake) []) : FnOk P w K mg base CX0 2 f fd ["_law_box_here", "_law_some"] (spPick) := by
  refine F.ok c_law_pick (fun vs H Q E h => ?_) (fun cdv A outer s H vs Q E hr h => ?_)
  · obtain ⟨b, a, l, rfl, _⟩ := h
    rfl
  obtain ⟨b, a, l, rfl, hb, nab, ha, l1, l2, q⟩ := h
  refine ⟨_, pss_one (ps_ret (pe_ix (r := rIxL K) ix_list (pv 1) (pe_cl C_law_take (hr.mono (by decide)) pass0 rfl (pa_cons (pv 0) (pa_cons (pe_callB (id := "len") (r := rLenOf K) call_len_seq (by rfl) T.n_len (by decide +kernel) (pa_cons (pv 1) (pa_nil))) (pa_nil)))) (fun _ _ => rfl))), ?_⟩
  refine ⟨_, rfl, _, rfl, _, rfl, a, _, rfl, .inl (LN.sq ha), b, l.length, by rw [nVs_len]; rfl, hb, l1, l2, fun d H' hd s1 b1 => ?_⟩
  obtain ⟨z, hz⟩ := get_lt hd
  exact ⟨_, _, _, nV z, rfl, rfl, LN.sq (s1 _ _ nab ha), atI_nat (nVs_get hz), q z H' (List.mem_of_getElem? hz) s1 b1⟩
/-- numbers below many, in some order -/
def spMixed : Sp := fun vs H Q _ => ∃ (b : Addr) (m : Nat), vs = [.ref b, nV m] ∧ Bx H b ∧ m ≤ 1000 ∧ ∀ p l H', H p = none → LN H' p l → l.length = m → (∀ d ∈ l, d < m) → SameX b H H' → Bx H' b → Q (.ref p) H'
theorem ok_law_mixed {f : Addr} {fd : FuncData} (F : Fun K "_law_mixed" "_law_mixed" s_law_mixed f fd) (T : Tx mg) (C_law_take : Cl P w K mg base CX0 1 "_law_take" ["_law_box_here", "_law_many"] (spTake) []) : FnOk P w K mg base CX0 2 f fd ["_law_box_here", "_law_many"] (spMixed) := by
  refine F.ok c_law_mixed (fun vs H Q E h => ?_) (fun cdv A outer s H vs Q E hr h => ?_)
  · obtain ⟨b, m, rfl, _⟩ := h
    rfl
  obtain ⟨b, m, rfl, hb, hm, q⟩ := h
  refine ⟨_, pss_cons (ps_par (i := 2) (j := 3) rfl c_law_mixed.nd rfl rfl (by decide) rfl rfl (pa_cons (pe_lst (pa_nil)) (pa_cons (pe_callTy (cr_listR rfl) (by rfl) T.n_list (by decide +kernel) (pa_cons (pe_callTy cr_range1 (by rfl) T.n_range (by decide +kernel) (pa_cons (pv 1) (pa_nil))) pa_nil)) pa_nil)) (by rfl))
  (pss_cons (ps_for PassesOwn.never rfl (pi_range1 (by rfl) T.n_range (pa_cons (pv 1) (pa_nil))) (pg_name (i := 4) c_law_mixed.nd rfl (Or.inl rfl))
    (pss_one (ps_expr (pe_bm PySem.F.plainAttrs_list PySem.F.slot_list_append PySem.F.type_list_append mt_append (pv 2) (pa_cons (pe_bm PySem.F.plainAttrs_list PySem.F.slot_list_pop PySem.F.type_list_pop mt_popAt (pv 3) (pa_cons (pe_cl C_law_take (hr.mono (by decide)) pass0 rfl (pa_cons (pv 0) (pa_cons (pe_callB (id := "len") (r := rLenOf K) call_len_seq (by rfl) T.n_len (by decide +kernel) (pa_cons (pv 3) (pa_nil))) (pa_nil)))) (pa_nil))) (pa_nil))))))
  (pss_one (ps_ret (pv 2)))), ?_⟩
  have hz : sizeLine = 16777216 := sizeLine_eq
  refine ⟨by decide, fun p np => ?_⟩
  have s1 : Same H (upd H p (.lst [])) := Same.upd np
  have p1 : LN (upd H p (.lst [])) p [] := upd_same
  generalize upd H p (.lst []) = H1 at s1 p1 ⊢
  refine ⟨_, rfl, _, rfl, fun g ng => ⟨g, m, rfl, upd_same, hm, fun u nu => ?_⟩⟩
  have s2 := s1.trans (Same.upd ng (o := .rng 0 (m : Nat)))
  have p2 : LN (upd H1 g (.rng 0 (m : Nat))) p [] := p1.same (Same.upd ng)
  generalize upd H1 g (.rng 0 (m : Nat)) = H2 at s2 p2 nu ⊢
  have nbp : b ≠ p := hb.ne np
  have nbu : b ≠ u := hb.ne (s2.free nu)
  have npu : p ≠ u := ne_of_none p2 nu
  have u2 : LN (upd H2 u (.lst ((List.range m).map fun i => V.int (i : Nat)))) u (List.range m) := upd_same
  have p3 := p2.same (Same.upd nu (o := .lst ((List.range m).map fun i => V.int (i : Nat))))
  have s3 := s2.trans (Same.upd nu (o := .lst ((List.range m).map fun i => V.int (i : Nat))))
  have nu0 := s2.free nu
  generalize upd H2 u (.lst ((List.range m).map fun i => V.int (i : Nat))) = H3 at s3 u2 p3 ⊢
  have b3 := hb.same s3
  refine ⟨_, _, rfl, ?_⟩
  refine ⟨_, rfl, _, rfl, by omega, by omega, for_range (fun i σ H' => ∃ v4 lf rt, σ = [some (.ref b), some (nV m), some (.ref p), some (.ref u), v4] ∧ SameX b H H' ∧ Bx H' b ∧ LN H' p lf ∧ LN H' u rt ∧ lf.length = i ∧ rt.length = m - i ∧ (∀ d ∈ lf, d < m) ∧ ∀ d ∈ rt, d < m) ?_ ?_ ?_⟩
  · exact ⟨_, [], List.range m, rfl, .of s3, b3, p3, u2, rfl, by simp, fun d hd => (List.not_mem_nil hd).elim, fun d hd => List.mem_range.mp hd⟩
  · rintro i σ H3 hi ⟨v4, lf, rt, rfl, s3, b3, p3, u3, l3, r3, f3, g3⟩
    have hi' : i < m := by omega
    refine ⟨_, rfl, .inl ⟨rfl, _, LN.sq p3⟩, _, rfl, .inl ⟨rfl, _, LN.sq u3⟩, _, rfl, _, rfl, u, _, rfl, .inl (LN.sq u3), b, rt.length, by rw [nVs_len]; rfl, b3, by omega, by omega, fun d H4 hd s4 b4 => ?_⟩
    obtain ⟨z, hz1⟩ := get_lt hd
    have u4 : LN H4 u rt := s4 _ _ (fun z => nbu z.symm) u3
    have p4 : LN H4 p lf := s4 _ _ (fun z => nbp z.symm) p3
    refine ⟨u, _, _, d, nV z, rfl, rfl, u4, by omega, by omega, by rw [PySem.seqIndex_of (by omega) (by rw [nVs_len]; omega)]; rfl, nVs_get hz1, ?_⟩
    have p5 : LN (upd H4 u (.lst ((nVs rt).eraseIdx d))) p lf := by
      show _ = _
      rw [upd_ne npu]
      exact p4
    refine ⟨p, _, _, rfl, rfl, p5, by rw [nVs_len]; omega, ?_⟩
    have e6 : (nVs rt).eraseIdx d = nVs (rt.eraseIdx d) := nVs_erase rt d
    have e7 : nVs lf ++ [nV z] = nVs (lf ++ [z]) := by unfold nVs; simp
    rw [e6, e7]
    refine ⟨_, lf ++ [z], rt.eraseIdx d, rfl, ?_, ?_, upd_same, ?_, by simp [l3], ?_, fun e he => ?_, fun e he => g3 e (List.mem_of_mem_eraseIdx he)⟩
    · exact ((s3.trans s4).new nu0).new np
    · exact ((b4.ne_upd nbu).ne_upd nbp)
    · show _ = _
      rw [upd_ne npu.symm]
      exact upd_same
    · rw [List.length_eraseIdx, if_pos hd, r3]
      omega
    · rcases List.mem_append.mp he with z1 | z1
      · exact f3 e z1
      · rw [List.mem_singleton.mp z1]
        exact g3 _ (List.mem_of_getElem? hz1)
  · rintro σ H3 ⟨v4, lf, rt, rfl, s3, b3, p3, u3, l3, r3, f3, g3⟩
    exact ⟨_, rfl, q p lf H3 np p3 (by omega) f3 s3 b3⟩
/-- what a counter shows -/
def spShown : Sp := fun vs H Q _ => ∃ t s m : Nat, vs = [nV t, nV s, nV m] ∧ Q (nV (shAs t s m)) H
theorem ok_law_shown {f : Addr} {fd : FuncData} (F : Fun K "_law_shown" "_law_shown" s_law_shown f fd) (T : Tx mg) : FnOk P w K mg base CX0 1 f fd ["_law_turn", "_law_rest", "_law_many"] spShown := by
  refine F.ok c_law_shown (fun vs H Q E h => ?_) (fun cdv A outer s H vs Q E hr h => ?_)
  · obtain ⟨t, s, m, rfl, _⟩ := h
    rfl
  obtain ⟨t, s, m, rfl, q⟩ := h
  refine ⟨_, pss_one (ps_ret (pe_ifExp (PW.pt (pw_or (pt_cmpR op_eq (pv 0) (pe_int) (nomark _)) (pw_or1 (pt_cmpR op_lt (pv 2) (pv 1) (nomark _))))) (pv 2) (pe_op op_add (pv 1) (pe_op op_mod (pe_callTy call_int1 (by rfl) T.n_int (by decide +kernel) (pa_cons (pe_op op_sub (pv 2) (pv 1)) (pa_nil))) (pv 0))))), ?_⟩
  refine ⟨_, rfl, rfl, _, rfl, ?_⟩
  by_cases h0 : t = 0
  · subst h0
    refine iteTb (by simp) (iteTb rfl ?_)
    refine ⟨_, rfl, ?_⟩
    rw [show shAs 0 s m = m from if_pos (.inl rfl)] at q
    exact q
  · refine iteFb (by simp; omega) ?_
    refine ⟨_, rfl, _, rfl, _, _, rfl, rfl, _, rfl, ?_⟩
    by_cases h1 : m < s
    · refine iteTb (decide_eq_true (by omega)) ?_
      refine ⟨_, rfl, ?_⟩
      rw [show shAs t s m = m from if_pos (.inr h1)] at q
      exact q
    · refine iteFb (decide_eq_false (by omega)) ?_
      refine ⟨_, rfl, _, rfl, _, rfl, _, _, rfl, rfl, .inl ⟨_, rfl, _, rfl, _, _, rfl, rfl, by show (0 : Int) < (t : Nat); omega, _, _, rfl, rfl, ?_⟩⟩
      have e : ((s : Nat) : Int) + ((m : Nat) - (s : Nat) : Int) % ((t : Nat) : Int) = ((shAs t s m : Nat) : Int) := by
        unfold shAs
        rw [if_neg (by omega), show ((m : Nat) - (s : Nat) : Int) = ((m - s : Nat) : Int) from by omega]
        omega
      have q' : Q (.int ((shAs t s m : Nat) : Int)) H := q
      rw [← e] at q'
      exact q'
end
end Ow

/-! ## W17 -/
set_option Elab.async false
set_option linter.all false
set_option maxRecDepth 100000
set_option maxHeartbeats 8000000
/-! any tables -/
namespace Ow
open PySem PySem.Spec PyProof.Rows L2
abbrev s_law_any : Stmt := topS 56
theorem c_law_any : FnScope ["_law_box_here", "_law_most", "_law_deeds", "_law_states", "_law_tables_here", "_law_deed", "_law_style", "_law_one", "_law_table", "_law_state"] ["_law_box_here", "_law_most", "_law_deeds"] (defScope s_law_any) := ⟨rfl, rfl, rfl, by decide +kernel, rfl, by decide +kernel, by decide +kernel⟩
abbrev s_law_opened : Stmt := topS 54
theorem c_law_opened : FnScope ["_law_tables_here", "_law_first", "_law_rounds", "_law_rests", "_law_witness", "_law_start", "_law_here", "_law_there", "_law_found", "_law_turn", "_law_state", "_law_standing", "_law_showing", "_law_deed", "_law_number", "_law_after"] ["_law_tables_here", "_law_first", "_law_rounds", "_law_rests", "_law_witness", "_law_start"] (defScope s_law_opened) := ⟨rfl, rfl, rfl, by decide +kernel, rfl, by decide +kernel, by decide +kernel⟩
abbrev s_law_led : Stmt := topS 57
theorem c_law_led : FnScope ["_law_tables_here", "_law_first", "_law_numbers", "_law_found", "_law_rows", "_law_number", "_law_longer", "_law_row", "_law_states", "_law_deed", "_law_less", "_law_many", "_law_state"] ["_law_tables_here", "_law_first", "_law_numbers"] (defScope s_law_led) := ⟨rfl, rfl, rfl, by decide +kernel, rfl, by decide +kernel, by decide +kernel⟩

theorem rI0n {g : Int → Int → V} {i j : Int} {c : Nat} {H : Hp} {Q : VK} (h : g i j = nV c) (q : Q (nV c) H) : rI0 g (.int i) (.int j) H Q := ⟨_, _, rfl, rfl, by rw [h]; exact q⟩
theorem nats_of {n : Nat} : ∀ {ys : List V}, (∀ (j : Nat) y, ys[j]? = some y → ∃ d, d < n ∧ y = nV d) → ∃ l, ys = nVs l ∧ ∀ d ∈ l, d < n
  | [], _ => ⟨[], rfl, fun _ z => (List.not_mem_nil z).elim⟩
  | y :: ys, h => by
    obtain ⟨d, hd, rfl⟩ := h 0 y rfl
    obtain ⟨l, rfl, hl⟩ := nats_of (ys := ys) fun j z hz => h (j + 1) z hz
    exact ⟨d :: l, rfl, fun e he => by
      rcases List.mem_cons.mp he with z | z
      · rw [z]; exact hd
      · exact hl e z⟩
theorem lst_ne_tup {H : Hp} {a b : Addr} {xs ys : List V} (h : H a = some (.lst xs)) (h' : H b = some (.tup ys)) : b ≠ a := fun z => by
  rw [z, h] at h'
  cases h'
/-- a tuple stays when a list is written -/
theorem TN.sx {H H' : Hp} {a b : Addr} {l : List Nat} (h : TN H a l) (hb : Bx H b) (s : SameX b H H') : TN H' a l := s _ _ (let ⟨_, _, e⟩ := hb; lst_ne_tup e h) h
theorem TT2.sx {H H' : Hp} {a b : Addr} {l : List (List Nat)} (h : TT2 H a l) (hb : Bx H b) (s : SameX b H H') : TT2 H' a l := let ⟨as, h1, h2⟩ := h; ⟨as, s _ _ (let ⟨_, _, e⟩ := hb; lst_ne_tup e h1) h1, Paired.mapP h2 fun _ _ z => z.sx hb s⟩
theorem paired_app {α β : Type} {R : α → β → Prop} {xs xs' : List α} {ys ys' : List β} (h : Paired R xs ys) (h' : Paired R xs' ys') : Paired R (xs ++ xs') (ys ++ ys') := by
  induction h with
  | nil => exact h'
  | cons r t ih => exact .cons r ih
section
variable {P : Program} {w : World} {K : PySem.W.Frag} {mg : Str → Option Value} {base : Heap}
def spAny : Sp := fun vs H Q _ => ∃ (b : Addr) (m dn : Nat), vs = [.ref b, nV m, nV dn] ∧ Bx H b ∧ 1 ≤ m ∧ m ≤ 6 ∧ 1 ≤ dn ∧ dn ≤ 4 ∧ ∀ p a ts n first H', SameX b H H' → Bx H' b → H' p = some (.tup [.ref a, nV first]) → TT2 H' a ts → TbOk ts n → first < n → n ≤ m → Q (.ref p) H'
theorem ok_law_any {f : Addr} {fd : FuncData} (F : Fun K "_law_any" "_law_any" s_law_any f fd) (T : Tx mg) (C_law_take : Cl P w K mg base CX0 1 "_law_take" ["_law_box_here", "_law_many"] (spTake) []) (C_law_mixed : Cl P w K mg base CX0 2 "_law_mixed" ["_law_box_here", "_law_many"] (spMixed) []) : FnOk P w K mg base CX0 3 f fd ["_law_box_here", "_law_most", "_law_deeds"] spAny := by
  refine F.ok c_law_any (fun vs H Q E h => ?_) (fun cdv A outer s H vs Q E hr h => ?_)
  · obtain ⟨b, m, dn, rfl, _⟩ := h
    rfl
  obtain ⟨b, m, dn, rfl, hb, m1, m6, d1, d4, q⟩ := h
  refine ⟨_, pss_cons (ps_set (i := 3) c_law_any.nd rfl (Or.inr rfl) (pe_op op_add (pe_int) (pe_cl C_law_take (hr.mono (by decide)) pass0 rfl (pa_cons (pv 0) (pa_cons (pv 1) (pa_nil))))))
  (pss_cons (ps_set (i := 4) c_law_any.nd rfl (Or.inl rfl) (pe_lst (pa_nil)))
  (pss_cons (ps_for PassesOwn.never rfl (pi_range1 (by rfl) T.n_range (pa_cons (pe_op op_add (pe_int) (pe_cl C_law_take (hr.mono (by decide)) pass0 rfl (pa_cons (pv 0) (pa_cons (pv 2) (pa_nil))))) (pa_nil))) (pg_name (i := 5) c_law_any.nd rfl (Or.inl rfl))
    (pss_cons (ps_asg (pe_tup (pa_cons (pe_cl C_law_take (hr.mono (by decide)) pass0 rfl (pa_cons (pv 0) (pa_cons (pe_int) (pa_nil)))) (pa_cons (pe_cl C_law_take (hr.mono (by decide)) pass0 rfl (pa_cons (pv 0) (pa_cons (pv 3) (pa_nil)))) (pa_nil)))) (pg_tup rfl (pgs_cons (pg_name (i := 6) c_law_any.nd rfl (Or.inl rfl)) (pgs_cons (pg_name (i := 7) c_law_any.nd rfl (Or.inr rfl)) (pgs_nil)))))
  (pss_cons (ps_setLc (i := 8) (own := [("_law_state", 9)]) (g := gName 9) (tt := tYes) rfl c_law_any.nd rfl rfl (sw_true rfl rfl rfl (by decide +kernel)) (pi_range1 (by rfl) T.n_range (pa_cons (pv 3) (pa_nil))) (blkOk_by (by kernel_rfl)) (fun _ _ _ _ _ => pg_name (i := 9) c_law_any.nd rfl (by first | exact Or.inl rfl | exact Or.inr rfl)) (fun _ _ _ _ _ => pts_nil) (fun _ _ _ _ _ => pe_cl C_law_take (hr.mono (by decide)) pass0 rfl (pa_cons (pv 0) (pa_cons (pv 3) (pa_nil)))))
  (pss_cons (ps_if (pt_cmpR op_eq (pv 6) (pe_int) (nomark _)) (pss_one (ps_setLc (i := 8) (own := [("_law_state", 9)]) (g := gName 9) (tt := tYes) rfl c_law_any.nd rfl rfl (sw_true rfl rfl rfl (by decide +kernel)) (pi_range1 (by rfl) T.n_range (pa_cons (pv 3) (pa_nil))) (blkOk_by (by kernel_rfl)) (fun _ _ _ _ _ => pg_name (i := 9) c_law_any.nd rfl (by first | exact Or.inl rfl | exact Or.inr rfl)) (fun _ _ _ _ _ => pts_nil) (fun _ _ _ _ _ => pe_ifExp (pt_cmpR op_eq (pe_cl C_law_take (hr.mono (by decide)) pass0 rfl (pa_cons (pv 0) (pa_cons (pe_int) (pa_nil)))) (pe_int) (nomark _)) (pv 7) (pv 9))))
    (pss_nil))
  (pss_one (ps_expr (pe_bm PySem.F.plainAttrs_list PySem.F.slot_list_append PySem.F.type_list_append mt_append (pv 4) (pa_cons (pe_callTy (T := "tuple") (r := rTupOf K) call_tuple_of (by rfl) T.n_tuple (by decide +kernel) (pa_cons (pe_ifExp (pt_cmpR op_eq (pv 6) (pe_int) (nomark _)) (pe_cl C_law_mixed (hr.mono (by decide)) pass0 rfl (pa_cons (pv 0) (pa_cons (pv 3) (pa_nil)))) (pv 8)) (pa_nil))) (pa_nil)))))))))
  (pss_one (ps_ret (pe_tup (pa_cons (pe_callTy (T := "tuple") (r := rTupOf K) call_tuple_of (by rfl) T.n_tuple (by decide +kernel) (pa_cons (pv 4) (pa_nil))) (pa_cons (pe_cl C_law_take (hr.mono (by decide)) pass0 rfl (pa_cons (pv 0) (pa_cons (pv 3) (pa_nil)))) (pa_nil)))))))), ?_⟩
  refine ⟨_, rfl, _, rfl, b, m, rfl, hb, m1, by omega, fun d0 H1 hd0 s1 b1 => rI0n (c := d0 + 1) (congrArg V.int (by omega)) ?_⟩
  generalize hn : d0 + 1 = n
  refine ⟨by decide, fun ta nta => ?_⟩
  have s2 : SameX b H (upd H1 ta (.lst [])) := s1.trans (SmE.new .refl nta)
  have t2 : (upd H1 ta (.lst [])) ta = some (.lst []) := upd_same
  have b2 := b1.same (Same.upd nta (o := .lst []))
  have nbt : b ≠ ta := b1.ne nta
  have nt0 : H ta = none := s1.free (fun z => nbt z.symm) nta
  generalize upd H1 ta (.lst []) = H2 at s2 t2 b2 ⊢
  refine ⟨_, rfl, _, rfl, b, dn, rfl, b2, d1, by omega, fun d5 H3 hd5 s3 b3 => rI0n (c := d5 + 1) (congrArg V.int (by omega)) ?_⟩
  generalize hk : d5 + 1 = kk
  have t3 := s3 _ _ (fun z => nbt z.symm) t2
  refine ⟨_, rfl, by omega, by omega, for_range (fun i σ H' => ∃ v5 v6 v7 v8 v9 as rows, σ = [some (.ref b), some (nV m), some (nV dn), some (nV n), some (.ref ta), v5, v6, v7, v8, v9] ∧ SameX b H H' ∧ Bx H' b ∧ H' ta = some (.lst (as.map V.ref)) ∧ Paired (TN H') as rows ∧ rows.length = i ∧ ∀ row ∈ rows, row.length = n ∧ ∀ s ∈ row, s < n) ?_ ?_ ?_⟩
  · exact ⟨_, _, _, _, _, [], [], rfl, s2.trans s3, b3, t3, .nil, rfl, fun _ z => (List.not_mem_nil z).elim⟩
  · rintro i σ H4 hi ⟨v5, v6, v7, v8, v9, as, rows, rfl, s4, b4, t4, p4, l4, k4⟩
    have hz : sizeLine = 16777216 := sizeLine_eq
    refine ⟨_, rfl, b, 4, rfl, b4, by omega, by omega, fun st H5 hst s5 b5 => ⟨_, rfl, _, rfl, b, n, rfl, b5, by omega, by omega, fun on H6 hon s6 b6 => ⟨by show 2 ≤ sizeLine; decide, fun tp ntp => ⟨tp, _, rfl, SqT.of upd_same, rfl, _, _, rfl, _, _, rfl, rfl, ?_⟩⟩⟩⟩
    have s7 : SameX b H4 (upd H6 tp (.tup [nV st, nV on])) := (s5.trans s6).trans (SmE.new .refl ntp)
    have b7 := b6.same (Same.upd ntp (o := .tup [nV st, nV on]))
    generalize upd H6 tp (.tup [nV st, nV on]) = H7 at s7 b7 ⊢
    refine ⟨_, rfl, _, rfl, by omega, by omega, fun D hD => lcE_range (E := fun z => z = b) (J := fun H => Bx H b) (R := fun _ y _ => ∃ d, d < n ∧ y = nV d) hD (fun z => (b7.ne hD) z.symm) (by omega) b7 ?_ (fun _ _ _ _ _ _ e _ => e) ?_ ?_⟩
    · exact fun H o j => j.ne_upd (b7.ne hD)
    · intro i H8 k hi s8 j8 _ kk
      exact ⟨rfl, _, rfl, _, rfl, b, n, rfl, j8, by omega, by omega, fun d H9 hd s9 b9 => kk _ _ s9 b9 ⟨d, hd, rfl⟩⟩
    intro H8 ys s8 b8 e8 l8 r8
    obtain ⟨l, rfl, hl⟩ := nats_of r8
    have nDb : D ≠ b := fun z => (b7.ne hD) z.symm
    have fin : ∀ (H10 : Hp) (l2 : List Nat) (a : Addr), SameX b H4 H10 → Bx H10 b → l2.length = n → (∀ d ∈ l2, d < n) → H10 a = none → H10 ta = some (.lst (as.map V.ref)) ∧ (upd H10 a (.tup (nVs l2))) ta = some (.lst (as.map V.ref)) ∧
        (SameX b H (upd (upd H10 a (.tup (nVs l2))) ta (.lst (as.map V.ref ++ [.ref a]))) ∧ Bx (upd (upd H10 a (.tup (nVs l2))) ta (.lst (as.map V.ref ++ [.ref a]))) b ∧ (upd (upd H10 a (.tup (nVs l2))) ta (.lst (as.map V.ref ++ [.ref a]))) ta = some (.lst ((as ++ [a]).map V.ref)) ∧
        Paired (TN (upd (upd H10 a (.tup (nVs l2))) ta (.lst (as.map V.ref ++ [.ref a])))) (as ++ [a]) (rows ++ [l2]) ∧ (rows ++ [l2]).length = i + 1 ∧ ∀ row ∈ rows ++ [l2], row.length = n ∧ ∀ s ∈ row, s < n) := by
      intro H10 l2 a s10 b10 ln lt na
      have t10 := s10 _ _ (fun z => nbt z.symm) t4
      have nta : ta ≠ a := ne_of_none t10 na
      have tup : ∀ a' l', TN (upd H10 a (.tup (nVs l2))) a' l' → TN (upd (upd H10 a (.tup (nVs l2))) ta (.lst (as.map V.ref ++ [.ref a]))) a' l' := fun a' l' e => by
        have ne : a' ≠ ta := lst_ne_tup (show (upd H10 a (.tup (nVs l2))) ta = some _ by rw [upd_ne nta]; exact t10) e
        show _ = _
        rw [upd_ne ne]
        exact e
      refine ⟨t10, by rw [upd_ne nta]; exact t10, ((s4.trans s10).trans (SmE.new .refl na)).new nt0, (b10.ne_upd (b10.ne na)).ne_upd nbt, ?_, ?_, by simp [l4], ?_⟩
      · rw [upd_same, List.map_append]
        rfl
      · refine paired_app (Paired.mapP p4 fun _ _ z => tup _ _ ((z.sx b4 s10).same (Same.upd na))) (.cons (tup _ _ upd_same) .nil)
      · intro row hrow
        rcases List.mem_append.mp hrow with z | z
        · exact k4 row z
        · rw [List.mem_singleton.mp z]
          exact ⟨ln, lt⟩
    have asl : (as.map V.ref).length < sizeLine := by
      rw [List.length_map, Paired.length p4, l4]
      omega
    refine ⟨_, rfl, rfl, _, rfl, ite2 (fun _ => ?_) fun _ => ?_⟩
    · refine ⟨_, rfl, _, rfl, by omega, by omega, fun D2 hD2 => lcE_range (E := fun z => z = b) (J := fun H => Bx H b) (R := fun _ y _ => ∃ d, d < n ∧ y = nV d) hD2 (fun z => (b8.ne hD2) z.symm) (by omega) b8 (fun H o j => j.ne_upd (b8.ne hD2)) (fun _ _ _ _ _ _ e _ => e) ?_ ?_⟩
      · intro i H8 k hi s8 j8 _ kk
        refine ⟨rfl, _, rfl, b, 2, rfl, j8, by omega, by omega, fun d H9 hd s9 b9 => ⟨rfl, _, rfl, ite2 (fun _ => ⟨_, rfl, ?_⟩) fun _ => ⟨_, rfl, ?_⟩⟩⟩
        · exact kk _ _ s9 b9 ⟨on, hon, rfl⟩
        · exact kk _ _ s9 b9 ⟨i, hi, rfl⟩
      intro H9 ys' s9' b9 e9 l9 r9
      obtain ⟨l', rfl, k9⟩ := nats_of r9
      have ln9 : l'.length = n := by rw [nVs_len] at l9; exact l9
      have s9 := (s7.trans s8).trans s9'
      refine ⟨_, rfl, .inl ⟨rfl, _, SqL.of (s9 _ _ (fun z => nbt z.symm) t4)⟩, _, rfl, rfl, _, rfl, ite2 (fun _ => ?_) fun _ => ?_⟩
      · refine ⟨_, rfl, _, rfl, b, n, rfl, b9, by omega, fun p l2 H10 np e10 l10 k10 s10 b10 => ⟨p, _, rfl, .inl ⟨LN.sq e10, fun a na => ?_⟩⟩⟩
        obtain ⟨_, f2, f3⟩ := fin H10 l2 a (s9.trans s10) b10 l10 k10 na
        exact ⟨ta, _, _, rfl, rfl, f2, asl, _, _, _, _, _, as ++ [a], rows ++ [l2], rfl, f3⟩
      · refine ⟨_, rfl, D2, _, rfl, .inl ⟨LN.sq e9, fun a na => ?_⟩⟩
        obtain ⟨_, f2, f3⟩ := fin _ l' a s9 b9 ln9 k9 na
        exact ⟨ta, _, _, rfl, rfl, f2, asl, _, _, _, _, _, as ++ [a], rows ++ [l'], rfl, f3⟩
    · have b9 := b8
      have s9 := s7.trans s8
      have e9 := e8
      have ln9 : l.length = n := by rw [nVs_len] at l8; exact l8
      have k9 := hl
      refine ⟨_, rfl, .inl ⟨rfl, _, SqL.of (s9 _ _ (fun z => nbt z.symm) t4)⟩, _, rfl, rfl, _, rfl, ite2 (fun _ => ?_) fun _ => ?_⟩
      · refine ⟨_, rfl, _, rfl, b, n, rfl, b9, by omega, fun p l2 H10 np e10 l10 k10 s10 b10 => ⟨p, _, rfl, .inl ⟨LN.sq e10, fun a na => ?_⟩⟩⟩
        obtain ⟨_, f2, f3⟩ := fin H10 l2 a (s9.trans s10) b10 l10 k10 na
        exact ⟨ta, _, _, rfl, rfl, f2, asl, _, _, _, _, _, as ++ [a], rows ++ [l2], rfl, f3⟩
      · refine ⟨_, rfl, D, _, rfl, .inl ⟨LN.sq e9, fun a na => ?_⟩⟩
        obtain ⟨_, f2, f3⟩ := fin _ l a s9 b9 ln9 k9 na
        exact ⟨ta, _, _, rfl, rfl, f2, asl, _, _, _, _, _, as ++ [a], rows ++ [l], rfl, f3⟩
  · rintro σ H4 ⟨v5, v6, v7, v8, v9, as, rows, rfl, s4, b4, t4, p4, l4, k4⟩
    refine ⟨_, rfl, ta, _, rfl, .inl ⟨SqL.of t4, fun a na => ?_⟩⟩
    have e5 : TT2 (upd H4 a (.tup (as.map V.ref))) a rows := ⟨as, upd_same, Paired.mapP p4 fun _ _ z => z.same (Same.upd na)⟩
    have s5 : SameX b H (upd H4 a (.tup (as.map V.ref))) := s4.trans (SmE.new .refl na)
    have b5 := b4.same (Same.upd na (o := .tup (as.map V.ref)))
    generalize upd H4 a (.tup (as.map V.ref)) = H5 at e5 s5 b5 ⊢
    refine ⟨_, rfl, _, rfl, b, n, rfl, b5, by omega, by omega, fun fi H6 hfi s6 b6 => ⟨by show 2 ≤ sizeLine; decide, fun p np => ?_⟩⟩
    have kl : rows.length = kk := by omega
    exact q p a rows n fi _ ((s5.trans s6).trans (SmE.new .refl np)) (b6.same (Same.upd np)) upd_same ((e5.sx b5 s6).same (Same.upd np)) ⟨by omega, by omega, by omega, by omega, fun r hr => (k4 r hr).1, fun r hr => (k4 r hr).2⟩ hfi (by omega)
end
end Ow

/-! ## W18 -/
set_option Elab.async false
set_option linter.all false
set_option maxRecDepth 100000
set_option maxHeartbeats 8000000
/-! sh[:d] + (v,) + sh[d + 1:]; the dict of lists of pairs -/
namespace Ow
open PySem PySem.Spec PyProof.Rows L2
section
variable {K : PySem.W.Frag}
theorem splice {tb td tv : TE} {σ : L2.St} {H : Hp} {Q : VK} {b : Addr} {sh : List Nat} {d m : Nat} (hb : TN H b sh) (hd : d < sh.length) (hz : sh.length ≤ 100) (rb : ∀ H' Q, Same H H' → Q (.ref b) H' → tb σ H' Q) (rd : ∀ H' Q, Same H H' → Q (nV d) H' → td σ H' Q)
    (rv : ∀ H' Q, Same H H' → (∀ H'', Same H' H'' → Q (nV m) H'') → tv σ H' Q) (q : ∀ H' p, Same H H' → TN H' p (sh.set d m) → Q (.ref p) H') :
    tOp (rCatA K) (tOp (rCatA K) (tSl (rSlT K) tb tNoPart (tPart td)) (tTup (tCons tv tNil))) (tSl (rSlT K) tb (tPart (tOp (rI0 fun i j => .int (i + j)) td (tC (.int 1)))) tNoPart) σ H Q := by
  have hsz : sizeLine = 16777216 := sizeLine_eq
  refine rb H _ (Same.refl H) (rd H _ (Same.refl H) ⟨_, rfl, b, _, rfl, TN.sq hb, ?_, fun p1 n1 => ?_⟩)
  · rintro ⟨_, z⟩
    rw [HT.sIx_nat, nVs_len] at z
    omega
  have s1 : Same H (upd H p1 (.tup (cutV (nVs sh) none (some (d : Nat))))) := Same.upd n1
  have e1 : TN (upd H p1 (.tup (cutV (nVs sh) none (some (d : Nat))))) p1 (sh.take d) := by
    show _ = _
    rw [upd_same, cut_to]
  generalize upd H p1 (.tup (cutV (nVs sh) none (some (d : Nat)))) = H1 at s1 e1 ⊢
  refine rv H1 _ s1 fun H2 s2 => ⟨by show 1 ≤ sizeLine; decide, fun p2 n2 => ?_⟩
  have s3 := s2.trans (Same.upd n2 (o := .tup [nV m]))
  have e2 : TN (upd H2 p2 (.tup [nV m])) p2 [m] := upd_same
  generalize upd H2 p2 (.tup [nV m]) = H3 at s3 e2 ⊢
  have e1' := e1.same s3
  have s13 := s1.trans s3
  have join : ∀ (H3 : Hp) (p3 : Addr), Same H H3 → TN H3 p3 (sh.take d ++ [m]) → tSl (rSlT K) tb (tPart (tOp (rI0 fun i j => .int (i + j)) td (tC (.int 1)))) tNoPart σ H3 fun y H2 => rCatA K (.ref p3) y H2 Q := fun H3 p3 s3 e3 => by
    refine rb H3 _ s3 (rd H3 _ s3 ⟨_, _, rfl, rfl, _, rfl, b, _, rfl, TN.sq (hb.same s3), ?_, fun p4 n4 => ?_⟩)
    · rintro ⟨z, _⟩
      rw [show (((d : Nat) : Int) + 1) = ((d + 1 : Nat) : Int) from rfl, HT.sIx_nat, nVs_len] at z
      omega
    have s4 : Same H3 (upd H3 p4 (.tup (cutV (nVs sh) (some ((d : Int) + 1)) none))) := Same.upd n4
    have e4 : TN (upd H3 p4 (.tup (cutV (nVs sh) (some ((d : Int) + 1)) none))) p4 (sh.drop (d + 1)) := by
      show _ = _
      rw [upd_same, show ((d : Int) + 1) = ((d + 1 : Nat) : Int) from rfl, cut_from]
    have enx : sh.take d ++ [m] ++ sh.drop (d + 1) = sh.set d m := set_cut sh d m hd
    refine ⟨p3, p4, _, _, rfl, rfl, TN.sq (e3.same s4), TN.sq e4, ?_, fun z => ?_, fun _ z => ?_, fun _ _ p5 n5 => ?_⟩
    · rw [nVs_len, nVs_len]
      simp
      omega
    · have := congrArg List.length z
      rw [nVs_len] at this
      simp at this
    · have hd1 : sh.drop (d + 1) = [] := by
        have := congrArg List.length z
        rw [nVs_len] at this
        exact List.eq_nil_of_length_eq_zero this
      rw [hd1, List.append_nil] at enx
      rw [enx] at e3
      exact q _ _ (s3.trans s4) (e3.same s4)
    · refine q _ _ ((s3.trans s4).trans (Same.upd n5)) ?_
      show _ = _
      rw [upd_same, ← enx]
      simp [nVs]
  refine ⟨p1, p2, _, _, rfl, rfl, TN.sq e1', TN.sq e2, ?_, fun z => ?_, fun _ z => ?_, fun _ _ p5 n5 => ?_⟩
  · rw [nVs_len, nVs_len]
    simp
    omega
  · have h0 : sh.take d = [] := by
      have := congrArg List.length z
      rw [nVs_len] at this
      exact List.eq_nil_of_length_eq_zero this
    exact join _ p2 s13 (by rw [h0]; exact e2)
  · cases z
  · exact join _ p5 (s13.trans (Same.upd n5)) (by show _ = _; rw [upd_same]; simp [nVs])
end
/-- to go on from what holds behind the first -/
theorem seq_by {a b : TS} {D : Ends} {σ : L2.St} {H : Hp} (Post : L2.St → Hp → Prop) (hb : ∀ σ' H', Post σ' H' → b D σ' H') (ha : (∀ σ' H', Post σ' H' → b D σ' H') → a { D with nx := b D } σ H) : tSeq a b D σ H := ha hb
/-! ### found[sh] = .. -/
def replA (ks : List (List Nat × Addr)) (sh : List Nat) (z : Addr) : List (List Nat × Addr) := ks.map fun q => if q.1 = sh then (q.1, z) else q
theorem replA_keys (ks : List (List Nat × Addr)) (sh : List Nat) (z : Addr) : (replA ks sh z).map (·.1) = ks.map (·.1) := by
  unfold replA
  rw [List.map_map]
  exact List.map_congr_left fun q _ => by
    show (if q.1 = sh then (q.1, z) else q).1 = q.1
    split <;> rfl
theorem replA_at {ks : List (List Nat × Addr)} {sh : List Nat} {z : Addr} {i : Nat} {q' : List Nat × Addr} (h : (replA ks sh z)[i]? = some q') : ∃ q, ks[i]? = some q ∧ q'.1 = q.1 ∧ q'.2 = if q.1 = sh then z else q.2 := by
  unfold replA at h
  rw [List.getElem?_map] at h
  obtain ⟨q, h1, h2⟩ := Option.map_eq_some_iff.mp h
  refine ⟨q, h1, ?_, ?_⟩
  · rw [← h2]; split <;> rfl
  · rw [← h2]; split <;> rfl
theorem putK_old {ks : List (List Nat × Addr)} {sh : List Nat} {z : Addr} {v : V} (h : valV (ksV ks) (skey sh) = some v) : putK (ksV ks) (skey sh) (.ref z) = ksV (replA ks sh z) := by
  unfold putK
  rw [valV_any, h]
  rw [if_pos (by rfl)]
  unfold ksV replA
  rw [List.map_map, List.map_map]
  refine List.map_congr_left fun q _ => ?_
  show (if skey q.1 = skey sh then (skey q.1, V.ref z) else (skey q.1, V.ref q.2)) = (skey (if q.1 = sh then (q.1, z) else q).1, V.ref (if q.1 = sh then (q.1, z) else q).2)
  by_cases e : q.1 = sh
  · rw [if_pos (by rw [e]), if_pos e]
  · rw [if_neg (fun x => e (skey_inj x)), if_neg e]
/-- a list of pairs (state, 0) -/
def PrsAt (H : Hp) (a : Addr) (sts : List Nat) : Prop := ∃ as : List Addr, H a = some (.lst (as.map V.ref)) ∧ Paired (fun x s => H x = some (.tup [nV s, nV 0])) as sts
theorem PrsAt.keep {H H' : Hp} {a : Addr} {sts : List Nat} (h : PrsAt H a sts) (hl : ∀ xs, H a = some (.lst xs) → H' a = some (.lst xs)) (ht : ∀ a xs, H a = some (.tup xs) → H' a = some (.tup xs)) : PrsAt H' a sts := let ⟨as, h1, h2⟩ := h; ⟨as, hl _ h1, Paired.mapP h2 fun _ _ z => ht _ _ z⟩
theorem PrsAt.same {H H' : Hp} {a : Addr} {sts : List Nat} (h : PrsAt H a sts) (s : Same H H') : PrsAt H' a sts := h.keep (fun _ e => s _ _ e) fun _ _ e => s _ _ e
structure OpAt (H : Hp) (d : Addr) (l : List Pl) (ks : List (List Nat × Addr)) (srt : Nat) : Prop where
  at_ : H d = some (.dT (ksV ks))
  nd : (ks.map (·.1)).Nodup
  prs : ∀ (i : Nat) q, ks[i]? = some q → ∃ sts, PrsAt H q.2 sts ∧ sts.Perm (stOf l q.1) ∧ (i < srt → sts.Pairwise (· < ·))
  all : ∀ p ∈ l, ∃ d, (p.1, d) ∈ ks
  non : ∀ q ∈ ks, ∃ p ∈ l, p.1 = q.1
theorem OpAt.few {H : Hp} {d : Addr} {l : List Pl} {ks : List (List Nat × Addr)} {srt : Nat} (h : OpAt H d l ks srt) : ks.length ≤ l.length := by
  have := nodup_le (ks.map (·.1)) (l.map (·.1)) h.nd fun sh hs => by
    obtain ⟨q, hq, rfl⟩ := List.mem_map.mp hs
    obtain ⟨p, hp, e⟩ := h.non q hq
    rw [← e]
    exact List.mem_map.mpr ⟨p, hp, rfl⟩
  simpa using this
theorem OpAt.keep {H H' : Hp} {d : Addr} {l : List Pl} {ks : List (List Nat × Addr)} {srt : Nat} (h : OpAt H d l ks srt) (hd : H' d = some (.dT (ksV ks))) (hl : ∀ a xs, H a = some (.lst xs) → (∃ q ∈ ks, q.2 = a) → H' a = some (.lst xs)) (ht : ∀ a xs, H a = some (.tup xs) → H' a = some (.tup xs)) : OpAt H' d l ks srt :=
  ⟨hd, h.nd, fun i q hq => let ⟨sts, h1, h2⟩ := h.prs i q hq; ⟨sts, h1.keep (fun xs e => hl _ _ e ⟨q, List.mem_of_getElem? hq, rfl⟩) ht, h2⟩, h.all, h.non⟩
theorem OpAt.same {H H' : Hp} {d : Addr} {l : List Pl} {ks : List (List Nat × Addr)} {srt : Nat} (h : OpAt H d l ks srt) (s : Same H H') : OpAt H' d l ks srt := h.keep (s _ _ h.at_) (fun _ _ e _ => s _ _ e) fun _ _ e => s _ _ e
/-- one more place -/
theorem OpAt.more {H H' : Hp} {d z : Addr} {l : List Pl} {p : Pl} {ks : List (List Nat × Addr)} (h : OpAt H d l ks 0) (hl : ∀ a xs, H a = some (.lst xs) → H' a = some (.lst xs)) (ht : ∀ a xs, H a = some (.tup xs) → H' a = some (.tup xs))
    (hz : ∃ sts, PrsAt H' z (sts ++ [p.2]) ∧ sts.Perm (stOf l p.1)) (old : (∃ v, valV (ksV ks) (skey p.1) = some v) → H' d = some (.dT (ksV (replA ks p.1 z)))) (new : valV (ksV ks) (skey p.1) = none → H' d = some (.dT (ksV (ks ++ [(p.1, z)])))) : ∃ ks', OpAt H' d (l ++ [p]) ks' 0 := by
  obtain ⟨sz, hz1, hz2⟩ := hz
  cases e : valV (ksV ks) (skey p.1) with
  | some v =>
    obtain ⟨d0, hd0, _⟩ := ks_of e
    refine ⟨_, old ⟨v, e⟩, by rw [replA_keys]; exact h.nd, fun i q' hq' => ?_, fun p' hp' => ?_, fun q' hq' => ?_⟩
    · obtain ⟨q, hq, e1, e2⟩ := replA_at hq'
      rw [e1, stOf_app]
      by_cases e3 : q.1 = p.1
      · rw [if_pos e3] at e2
        refine ⟨_, by rw [e2]; exact hz1, ?_, fun z => absurd z (Nat.not_lt_zero _)⟩
        rw [if_pos e3.symm, e3]
        exact hz2.append_right _
      · rw [if_neg e3] at e2
        obtain ⟨sts, h1, h2, _⟩ := h.prs i q hq
        refine ⟨sts, by rw [e2]; exact h1.keep (fun _ e => hl _ _ e) ht, ?_, fun z => absurd z (Nat.not_lt_zero _)⟩
        rw [if_neg fun z => e3 z.symm]
        exact h2
    · have key : ∀ x, (∃ d, (x, d) ∈ ks) → ∃ d, (x, d) ∈ replA ks p.1 z := fun x ⟨d, hd⟩ => by
        have : x ∈ (replA ks p.1 z).map (·.1) := by rw [replA_keys]; exact List.mem_map.mpr ⟨_, hd, rfl⟩
        obtain ⟨q, hq, rfl⟩ := List.mem_map.mp this
        exact ⟨q.2, hq⟩
      rcases List.mem_append.mp hp' with z1 | z1
      · exact key _ (h.all p' z1)
      · rw [List.mem_singleton.mp z1]
        exact key _ ⟨d0, hd0⟩
    · obtain ⟨i, hi⟩ := List.mem_iff_getElem?.mp hq'
      obtain ⟨q, hq, e1, e2⟩ := replA_at hi
      obtain ⟨p', hp', e3⟩ := h.non q (List.mem_of_getElem? hq)
      exact ⟨p', List.mem_append_left _ hp', by rw [e1]; exact e3⟩
  | none =>
    have hno := ks_none e
    refine ⟨_, new e, ?_, fun i q' hq' => ?_, fun p' hp' => ?_, fun q' hq' => ?_⟩
    · rw [List.map_append]
      refine List.nodup_append.mpr ⟨h.nd, by simp, fun a ha b hb e3 => ?_⟩
      rw [List.map_singleton, List.mem_singleton] at hb
      obtain ⟨q, hq, rfl⟩ := List.mem_map.mp ha
      exact hno q hq (e3.trans hb)
    · rcases Nat.lt_trichotomy i ks.length with c | c | c
      · rw [List.getElem?_append_left c] at hq'
        obtain ⟨sts, h1, h2, _⟩ := h.prs i q' hq'
        refine ⟨sts, h1.keep (fun _ e => hl _ _ e) ht, ?_, fun z => absurd z (Nat.not_lt_zero _)⟩
        rw [stOf_app, if_neg fun z => hno q' (List.mem_of_getElem? hq') z.symm]
        exact h2
      · subst c
        rw [List.getElem?_append_right (Nat.le_refl _), Nat.sub_self] at hq'
        cases hq'
        refine ⟨_, hz1, ?_, fun z => absurd z (Nat.not_lt_zero _)⟩
        rw [stOf_app, if_pos rfl]
        exact hz2.append_right _
      · rw [List.getElem?_eq_none (by simp; omega)] at hq'
        cases hq'
    · rcases List.mem_append.mp hp' with z1 | z1
      · obtain ⟨d1, hd1⟩ := h.all p' z1
        exact ⟨d1, List.mem_append_left _ hd1⟩
      · rw [List.mem_singleton.mp z1]
        exact ⟨z, List.mem_append_right _ (List.mem_singleton.mpr rfl)⟩
    · rcases List.mem_append.mp hq' with z1 | z1
      · obtain ⟨p', hp', e3⟩ := h.non q' z1
        exact ⟨p', List.mem_append_left _ hp', e3⟩
      · rw [List.mem_singleton.mp z1]
        exact ⟨p, List.mem_append_right _ (List.mem_singleton.mpr rfl), rfl⟩
/-- one more is sorted -/
theorem OpAt.sort {H H' : Hp} {d z : Addr} {l : List Pl} {ks : List (List Nat × Addr)} {j : Nat} {sh : List Nat} {d0 : Addr} {sts : List Nat} (h : OpAt H d l ks j) (hj : ks[j]? = some (sh, d0)) (hl : ∀ a xs, H a = some (.lst xs) → H' a = some (.lst xs)) (ht : ∀ a xs, H a = some (.tup xs) → H' a = some (.tup xs))
    (hz : PrsAt H' z sts) (hp : sts.Perm (stOf l sh)) (hs : sts.Pairwise (· < ·)) (hd : H' d = some (.dT (ksV (replA ks sh z)))) : OpAt H' d l (replA ks sh z) (j + 1) := by
  refine ⟨hd, by rw [replA_keys]; exact h.nd, fun i q' hq' => ?_, fun p' hp' => ?_, fun q' hq' => ?_⟩
  · obtain ⟨q, hq, e1, e2⟩ := replA_at hq'
    rw [e1]
    by_cases e3 : q.1 = sh
    · rw [if_pos e3] at e2
      exact ⟨sts, by rw [e2]; exact hz, by rw [e3]; exact hp, fun _ => hs⟩
    · rw [if_neg e3] at e2
      obtain ⟨st', h1, h2, h3⟩ := h.prs i q hq
      refine ⟨st', by rw [e2]; exact h1.keep (fun _ e => hl _ _ e) ht, h2, fun z => h3 ?_⟩
      have : i ≠ j := fun e => by
        rw [e, hj] at hq
        exact e3 (by rw [← Option.some.inj hq])
      omega
  · obtain ⟨d1, hd1⟩ := h.all p' hp'
    have : p'.1 ∈ (replA ks sh z).map (·.1) := by rw [replA_keys]; exact List.mem_map.mpr ⟨_, hd1, rfl⟩
    obtain ⟨q, hq, e⟩ := List.mem_map.mp this
    exact ⟨q.2, by rw [← e]; exact hq⟩
  · obtain ⟨i, hi⟩ := List.mem_iff_getElem?.mp hq'
    obtain ⟨q, hq, e1, e2⟩ := replA_at hi
    obtain ⟨p', hp', e3⟩ := h.non q (List.mem_of_getElem? hq)
    exact ⟨p', hp', by rw [e1]; exact e3⟩
/-- a for over range(n), the number itself at hand -/
theorem for_rangeN {n : Nat} {g : TG} {tb : TS} {D : Ends} {σ : L2.St} {H : Hp} (Pv : Nat → L2.St → Hp → Prop) (h0 : Pv 0 σ H)
    (hs : ∀ i σ H, i < n → Pv i σ H → g (nV i) σ H fun σ2 H2 => tb { D with nx := Pv (i + 1), ct := Pv (i + 1), bk := D.nx } σ2 H2) (hd : ∀ σ H, Pv n σ H → D.nx σ H) :
    ∃ W : Nat → Nat → L2.St → Hp → Prop, (∃ m, W 0 m σ H) ∧ ∀ i m σ H, W i m σ H →
      ((Itr 0 n).stop i H ∧ D.nx σ H) ∨ ((Itr 0 n).go i H ∧ ∃ N : L2.St → Hp → Prop, (∀ σ' H', N σ' H' → ∃ m', m' < m ∧ W (i + 1) m' σ' H') ∧ ∀ x H', (Itr 0 n).yld i H x H' → g x σ H' fun σ2 H2 => tb { D with nx := N, ct := N, bk := D.nx } σ2 H2) :=
  for_range Pv h0 (fun i σ H hi p => by
    rw [show V.int (0 + ((i : Nat) : Int)) = nV i from by rw [Int.zero_add]]
    exact hs i σ H hi p) hd
theorem flat_zero (k : Nat) : (List.replicate k [V.int 0]).flatten = nVs (List.replicate k 0) := by
  induction k with
  | zero => rfl
  | succ k ih =>
    rw [List.replicate_succ, List.flatten_cons, ih, List.replicate_succ]
    rfl
end Ow

/-! ## W19 -/
set_option Elab.async false
set_option linter.all false
set_option maxRecDepth 100000
set_option maxHeartbeats 16000000
/-! _law_opened -/
namespace Ow
open PySem PySem.Spec PyProof.Rows L2
def key3 (p : Pl) : K3 := ((p.2 : Nat), 0, p.1.map fun n : Nat => (n : Int))
theorem key3_inj {p q : Pl} (h : key3 p = key3 q) : p = q := by
  unfold key3 at h
  injection h with h1 h2
  injection h2 with _ h3
  refine Prod.ext ?_ (by omega)
  exact (List.map_inj_right fun a b e => by omega).mp h3
theorem at3_key {H : Hp} {a s : Addr} {p : Pl} (h : H a = some (.tup [nV p.2, nV 0, .ref s])) (hs : TN H s p.1) : At3 H a (key3 p) := ⟨s, h, by
  have e : H s = some (.tup (nVs p.1)) := hs
  rw [e, nVs_int]
  rfl⟩
theorem at3_back {H : Hp} {a : Addr} {p : Pl} (h : At3 H a (key3 p)) : ∃ s, H a = some (.tup [nV p.2, nV 0, .ref s]) ∧ TN H s p.1 := by
  obtain ⟨q, h1, h2⟩ := h
  exact ⟨q, h1, by show _ = _; rw [h2, nVs_int]; rfl⟩
/-- the list of refs to one tuple of one 0 -/
def WitAt (H : Hp) (a : Addr) (k : Nat) : Prop := ∃ z, H a = some (.lst (List.replicate k (.ref z))) ∧ TN H z [0]
theorem WitAt.same {H H' : Hp} {a : Addr} {k : Nat} (h : WitAt H a k) (s : Same H H') : WitAt H' a k := let ⟨z, h1, h2⟩ := h; ⟨z, s _ _ h1, h2.same s⟩
theorem Reach.lt {rs ss : List Nat} {ts : List (List Nat)} {lim : Option (List Nat)} {start n : Nat} {p : Pl} (ok : TbOk ts n) (hf : start < n) (h : Reach rs ss ts lim start p) : p.2 < n := by
  induction h with
  | start => exact hf
  | @step p d _ hd _ ih =>
    obtain ⟨row, hrow⟩ := get_lt hd
    have hm := List.mem_of_getElem? hrow
    obtain ⟨x, hx⟩ := get_lt (show p.2 < row.length by rw [ok.len row hm]; exact ih)
    show (ts.getD d []).getD p.2 0 < n
    rw [getD_of hrow, getD_of hx]
    exact ok.lt row hm x (List.mem_of_getElem? hx)
theorem paired_mapL {α β γ : Type} {f : α → β} {R : β → γ → Prop} : ∀ {xs : List α} {ys : List γ}, Paired R (xs.map f) ys → Paired (fun x y => R (f x) y) xs ys
  | [], [], _ => .nil
  | [], _ :: _, h => by cases h
  | x :: xs, ys, h => by
    cases h with
    | cons r t => exact .cons r (paired_mapL t)
theorem prs_refs {H : Hp} : ∀ {ys : List V} {ms : List (Nat × Nat)}, (∀ m ∈ ms, m.2 = 0) → Paired (fun x (m : Nat × Nat) => ∃ a, x = V.ref a ∧ H a = some (.tup [nV m.1, nV m.2])) ys ms → ∃ as : List Addr, ys = as.map V.ref ∧ Paired (fun a s => H a = some (.tup [nV s, nV 0])) as (ms.map (·.1))
  | [], [], _, _ => ⟨[], rfl, .nil⟩
  | _ :: _, [], _, h => by cases h
  | ys, m :: ms, h0, h => by
    cases h with
    | cons r t =>
      obtain ⟨a, rfl, ha⟩ := r
      obtain ⟨as, rfl, hp⟩ := prs_refs (fun m hm => h0 m (List.mem_cons_of_mem _ hm)) t
      refine ⟨a :: as, rfl, .cons ?_ hp⟩
      have := h0 m List.mem_cons_self
      rw [← this]
      exact ha
theorem refs_prs {H : Hp} : ∀ {as : List Addr} {sts : List Nat}, Paired (fun a s => H a = some (.tup [nV s, nV 0])) as sts → Paired (fun x (m : Nat × Nat) => ∃ a, x = V.ref a ∧ H a = some (.tup [nV m.1, nV m.2])) (as.map V.ref) (sts.map fun s => (s, 0))
  | [], [], _ => .nil
  | _ :: _, [], h => by cases h
  | [], _ :: _, h => by cases h
  | a :: as, s :: sts, h => by
    cases h with
    | cons r t => exact .cons ⟨a, rfl, r⟩ (refs_prs t)
theorem map_ref_inj : ∀ {xs ys : List Addr}, xs.map V.ref = ys.map V.ref → xs = ys
  | [], [], _ => rfl
  | [], _ :: _, h => by cases h
  | _ :: _, [], h => by cases h
  | x :: xs, y :: ys, h => by
    rw [List.map_cons, List.map_cons] at h
    injection h with h1 h2
    injection h1 with h1
    rw [h1, map_ref_inj h2]
/-- what a walk of the law leaves behind i places -/
structure OpI (P : Program) (w : World) (H H' : Hp) (hr th fd : Addr) (l : List Pl) (xs : List (K3 × Addr)) (ks : List (List Nat × Addr)) (l0 : List Pl) : Prop where
  sm : Same H H'
  hh : H' hr = some (.lst ((xs.map (·.2)).map V.ref))
  d3 : D3 P w H' th xs
  xl : xs.map (·.1) = l.map key3
  op : OpAt H' fd l0 ks 0
theorem OpI.ne {P : Program} {w : World} {H H' : Hp} {hr th fd : Addr} {l : List Pl} {xs : List (K3 × Addr)} {ks : List (List Nat × Addr)} {l0 : List Pl} (O : OpI P w H H' hr th fd l xs ks l0) : ∀ q ∈ ks, q.2 ≠ hr := by
  intro q hq e
  obtain ⟨i, hi⟩ := List.mem_iff_getElem?.mp hq
  obtain ⟨sts, ⟨as, h1, h2⟩, hp, _⟩ := O.op.prs i q hi
  obtain ⟨p, hpl, e1⟩ := O.op.non q hq
  have hs : p.2 ∈ sts := hp.mem_iff.mpr (mem_stOf.mpr (by rw [← e1]; exact hpl))
  rw [e, O.hh] at h1
  injection h1 with h1
  injection h1 with h1
  have ea := map_ref_inj h1
  obtain ⟨j, hj⟩ := List.mem_iff_getElem?.mp hs
  obtain ⟨a, ha, hat⟩ := paired_at h2 hj
  have hm := List.mem_of_getElem? ha
  rw [← ea] at hm
  obtain ⟨x, hx, e2⟩ := List.mem_map.mp hm
  obtain ⟨_, h3, _⟩ := O.d3.keys x hx
  rw [e2, hat] at h3
  injection h3 with h3
  injection h3 with h3
  injection h3 with _ h3
  injection h3 with _ h3
  cases h3
theorem OpI.same {P : Program} {w : World} {H H' H2 : Hp} {hr th fd : Addr} {l : List Pl} {xs : List (K3 × Addr)} {ks : List (List Nat × Addr)} {l0 : List Pl} (O : OpI P w H H' hr th fd l xs ks l0) (s : Same H' H2) : OpI P w H H2 hr th fd l xs ks l0 :=
  ⟨O.sm.trans s, s _ _ O.hh, O.d3.same s, O.xl, O.op.same s⟩
section
variable {P : Program} {w : World} {K : PySem.W.Frag} {mg : Str → Option Value} {base : Heap}
/-- all is found and sorted -/
def Opened (H : Hp) (d : Addr) (l : List Pl) : Prop := ∃ ks, OpAt H d l ks ks.length
def spOpened : Sp := fun vs H Q _ => ∃ (a r s wt : Addr) (ts : List (List Nat)) (n first : Nat) (rs ss : List Nat), vs = [.ref a, nV first, .ref r, .ref s, .ref wt, nV 0] ∧ TT2 H a ts ∧ TbOk ts n ∧ first < n ∧ LN H r rs ∧ LN H s ss ∧ rs.length = ts.length ∧ ss.length = rs.length ∧ WitAt H wt ts.length ∧
  (∀ H' d l, Same H H' → H d = none → Full rs ss ts none first l → l.length ≤ 5000 → Opened H' d l → Q (.ref d) H') ∧ (∀ H' (l : List Pl), Same H H' → l.Nodup → (∀ p ∈ l, Reach rs ss ts none first p) → 5000 < l.length → Q .non H')
theorem ok_law_opened {f : Addr} {fd : FuncData} (F : Fun K "_law_opened" "_law_opened" s_law_opened f fd) (T : Tx mg) (C_law_shown : Cl P w K mg base CX0 1 "_law_shown" ["_law_turn", "_law_rest", "_law_many"] spShown []) : FnOk P w K mg base CX0 2 f fd ["_law_tables_here", "_law_first", "_law_rounds", "_law_rests", "_law_witness", "_law_start"] spOpened := by
  refine F.ok c_law_opened (fun vs H Q E h => ?_) (fun cdv A outer s H vs Q E hr h => ?_)
  · obtain ⟨a, r, s', wt, ts, n, first, rs, ss, rfl, _⟩ := h
    rfl
  obtain ⟨a, r, s', wt, ts, n, first, rs, ss, rfl, ha, ok, hf, hR, hS, hl, hs, hw, qA, qB⟩ := h
  refine ⟨_, pss_cons (ps_par3 (i := 6) (j := 7) (k := 8) rfl c_law_opened.nd rfl rfl rfl (by decide) (by decide) (by decide) rfl rfl rfl (pa_cons (pe_lst (pa_cons (pe_tup (pa_cons (pv 1) (pa_cons (pv 5) (pa_cons (pe_op op_repA (pe_tup (pa_cons (pe_int) (pa_nil))) (pe_callB (id := "len") (r := rLenOf K) call_len_seq (by rfl) T.n_len (by decide +kernel) (pa_cons (pv 0) (pa_nil)))) (pa_nil))))) (pa_nil))) (pa_cons (pe_dnew3) (pa_cons (pe_dnewT) (pa_nil)))) (by rfl))
  (pss_cons (ps_put3 (hu10_of hr) (pv 7) (pe_ix (r := rIxL K) ix_list (pv 6) (pe_int) (fun _ _ => rfl)) (pe_bl) rfl)
  (pss_cons (ps_for PassesOwn.never rfl (pi_range1 (by rfl) T.n_range (pa_cons (pe_int) (pa_nil))) (pg_name (i := 9) c_law_opened.nd rfl (Or.inl rfl))
    (pss_cons (ps_if (pt_cmpR op_eq (pv 9) (pe_callB (id := "len") (r := rLenOf K) call_len_seq (by rfl) T.n_len (by decide +kernel) (pa_cons (pv 6) (pa_nil))) (nomark _)) (pss_one (ps_break))
    (pss_nil))
  (pss_cons (ps_asg (pe_ix (r := rIxL K) ix_list (pv 6) (pv 9) (fun _ _ => rfl)) (pg_tup rfl (pgs_cons (pg_name (i := 10) c_law_opened.nd rfl (Or.inl rfl)) (pgs_cons (pg_name (i := 11) c_law_opened.nd rfl (Or.inl rfl)) (pgs_cons (pg_name (i := 12) c_law_opened.nd rfl (Or.inl rfl)) (pgs_nil))))))
  (pss_cons (ps_dput (hu_of hr) (pv 8) (pv 12) (pe_op op_cat (pe_dget2 (hu_of hr) (pv 8) (pv 12) (pe_lst (pa_nil)) (by exact ⟨rfl, rfl, rfl, rfl⟩)) (pe_lst (pa_cons (pe_tup (pa_cons (pv 10) (pa_cons (pv 11) (pa_nil)))) (pa_nil)))) rfl)
  (pss_one (ps_for PassesOwn.never rfl (pi_range1 (by rfl) T.n_range (pa_cons (pe_callB (id := "len") (r := rLenOf K) call_len_seq (by rfl) T.n_len (by decide +kernel) (pa_cons (pv 0) (pa_nil))) (pa_nil))) (pg_name (i := 13) c_law_opened.nd rfl (Or.inl rfl))
    (pss_cons (ps_set (i := 14) c_law_opened.nd rfl (Or.inl rfl) (pe_cl C_law_shown (hr.mono (by decide)) pass0 rfl (pa_cons (pe_ix (r := rIxL K) ix_list (pv 2) (pv 13) (fun _ _ => rfl)) (pa_cons (pe_ix (r := rIxL K) ix_list (pv 3) (pv 13) (fun _ _ => rfl)) (pa_cons (pe_op op_add (pe_ix (r := rIxT K) ix_tup (pv 12) (pv 13) (fun _ _ => rfl)) (pe_int)) (pa_nil))))))
  (pss_cons (ps_set (i := 15) c_law_opened.nd rfl (Or.inl rfl) (pe_tup (pa_cons (pe_ix (r := rIxT K) ix_tup (pe_ix (r := rIxT K) ix_tup (pv 0) (pv 13) (fun _ _ => rfl)) (pv 10) (fun _ _ => rfl)) (pa_cons (pe_ix (r := rIxT K) ix_tup (pe_ix (r := rIxL K) ix_list (pv 4) (pv 13) (fun _ _ => rfl)) (pv 11) (fun _ _ => rfl)) (pa_cons (pe_op (r := rCatA K) op_catA (pe_op (r := rCatA K) op_catA (pe_slice sl_tup (pv 12) (po_none) (po_some (pv 13))) (pe_tup (pa_cons (pv 14) (pa_nil)))) (pe_slice sl_tup (pv 12) (po_some (pe_op op_add (pv 13) (pe_int))) (po_none))) (pa_nil))))))
  (pss_one (ps_if (pt_cmp (pc_notin3 (hu10_of hr) (pv 15) (pv 7))) (pss_cons (ps_put3 (hu10_of hr) (pv 7) (pv 15) (pe_bl) rfl)
  (pss_one (ps_expr (pe_bm PySem.F.plainAttrs_list PySem.F.slot_list_append PySem.F.type_list_append mt_append (pv 6) (pa_cons (pv 15) (pa_nil))))))
    (pss_nil)))))))))))
  (pss_cons (ps_for PassesOwn.never rfl (pi_listK K (pe_callTy (call_list_dT rfl) (by rfl) T.n_list (by decide +kernel) (pa_cons (pv 8) (pa_nil)))) (pg_name (i := 12) c_law_opened.nd rfl (Or.inl rfl))
    (pss_one (ps_dput (hu_of hr) (pv 8) (pv 12) (pe_callB (cr_sortD encPr hr.units) (by rfl) T.n_sorted (by decide +kernel) (pa_cons (pe_dget (hu_of hr) (pv 8) (pv 12) (fun _ _ => rfl)) (pa_nil))) rfl)))
  (pss_one (ps_ret (pe_ifExp (pt_cmpR op_le (pe_callB (id := "len") (r := rLenOf K) call_len_seq (by rfl) T.n_len (by decide +kernel) (pa_cons (pv 6) (pa_nil))) (pe_int) (nomark _)) (pv 8) (pe_non))))))), ?_⟩
  have hz : sizeLine = 16777216 := sizeLine_eq
  have one := ok.one
  have four := ok.four
  obtain ⟨as, hta, hpa⟩ := id ha
  have hlen : as.length = ts.length := Paired.length hpa
  refine ⟨_, rfl, _, rfl, by show 1 ≤ sizeLine; decide, fun z nz => ⟨_, rfl, a, _, rfl, .inr (SqT.of ((Same.upd nz) _ _ hta)), z, ts.length, [V.int 0], rfl, by rw [List.length_map, hlen], upd_same, by simp, one, by omega, by decide, fun p H1 s1 e1 => ?_⟩⟩
  have p1 : TN H1 p (List.replicate rs.length 0) := by
    show _ = _
    rw [e1, hl]
    exact congrArg (fun x => some (HO.tup x)) (flat_zero _)
  have s01 := (Same.upd nz (o := .tup [V.int 0])).trans s1
  clear e1 s1
  refine ⟨by show 3 ≤ sizeLine; decide, fun t nt => ?_⟩
  have s02 := s01.trans (Same.upd nt (o := .tup [nV first, nV 0, .ref p]))
  have t2 : (upd H1 t (.tup [nV first, nV 0, .ref p])) t = some (.tup [nV first, nV 0, .ref p]) := upd_same
  have p2 := p1.same (Same.upd nt (o := .tup [nV first, nV 0, .ref p]))
  generalize upd H1 t (.tup [nV first, nV 0, .ref p]) = H2 at s02 t2 p2 ⊢
  refine ⟨by show 1 ≤ sizeLine; decide, fun hh nh => ?_⟩
  have nh0 := s02.free nh
  have s03 := s02.trans (Same.upd nh (o := .lst [.ref t]))
  have h3 : (upd H2 hh (.lst [.ref t])) hh = some (.lst [.ref t]) := upd_same
  have t3 := (Same.upd nh (o := .lst [.ref t])) _ _ t2
  have p3 := p2.same (Same.upd nh (o := .lst [.ref t]))
  generalize upd H2 hh (.lst [.ref t]) = H3 at s03 h3 t3 p3 ⊢
  intro th nth
  have nth0 := s03.free nth
  have s04 := s03.trans (Same.upd nth (o := nd3 P w th []))
  have h4 := (Same.upd nth (o := nd3 P w th [])) _ _ h3
  have t4 := (Same.upd nth (o := nd3 P w th [])) _ _ t3
  have p4 := p3.same (Same.upd nth (o := nd3 P w th []))
  have d4 : D3 P w (upd H3 th (nd3 P w th [])) th [] := D3.new
  have k4 : At3 (upd H3 th (nd3 P w th [])) t (key3 (List.replicate rs.length 0, first)) := at3_key t4 p4
  intro fo nfo
  have nfo0 := s04.free nfo
  have s05 := s04.trans (Same.upd nfo (o := .dT []))
  have h5 := (Same.upd nfo (o := .dT [])) _ _ h4
  have k5 := k4.same (Same.upd nfo (o := .dT []))
  have d5 := d4.same (Same.upd nfo (o := .dT []))
  have f5 : (upd (upd H3 th (nd3 P w th [])) fo (.dT [])) fo = some (.dT []) := upd_same
  refine ⟨_, _, _, rfl, ?_⟩
  have hn0 : key3 (List.replicate rs.length 0, first) ∉ ([] : List (K3 × Addr)).map (·.1) := by simp
  refine ⟨_, rfl, _, rfl, _, _, _, _, rfl, rfl, SqL.of h5, rfl, th, t, [], _, rfl, rfl, rfl, d5, k5, hn0, by show 0 < sizeLine; omega, ?_⟩
  have d6 := d5.put k5 hn0 (by show 0 < sizeLine; omega)
  have s06 : Same H (upd (upd (upd H3 th (nd3 P w th [])) fo (.dT [])) th (nd3 P w th ([] ++ [(key3 (List.replicate rs.length 0, first), t)]))) := Same.updR s05 nth0
  have h6 : (upd (upd (upd H3 th (nd3 P w th [])) fo (.dT [])) th (nd3 P w th ([] ++ [(key3 (List.replicate rs.length 0, first), t)]))) hh = some (.lst [.ref t]) := by
    rw [upd_ne (ne_of h5 d5.at_ fun z => nomatch z)]
    exact h5
  have f6 : (upd (upd (upd H3 th (nd3 P w th [])) fo (.dT [])) th (nd3 P w th ([] ++ [(key3 (List.replicate rs.length 0, first), t)]))) fo = some (.dT []) := by
    rw [upd_ne (ne_of f5 d5.at_ fun z => nomatch z)]
    exact f5
  have I6 : OpI P w H (upd (upd (upd H3 th (nd3 P w th [])) fo (.dT [])) th (nd3 P w th ([] ++ [(key3 (List.replicate rs.length 0, first), t)]))) hh th fo [(List.replicate rs.length 0, first)] [(key3 (List.replicate rs.length 0, first), t)] [] ([(List.replicate rs.length 0, first)].take 0) :=
    ⟨s06, h6, d6, rfl, ⟨f6, List.nodup_nil, fun i q h => by simp at h, fun p hp => by simp at hp, fun q hq => (List.not_mem_nil hq).elim⟩⟩
  dsimp only
  refine seq_by (fun σ' H' => ∃ v9 v10 v11 v12 v13 v14 v15 l xs ks i, σ' = [some (.ref a), some (nV first), some (.ref r), some (.ref s'), some (.ref wt), some (nV 0), some (.ref hh), some (.ref th), some (.ref fo), v9, v10, v11, v12, v13, v14, v15] ∧ OpI P w H H' hh th fo l xs ks (l.take i) ∧
    SI rs ss ts none first l i ∧ i ≤ 5000 ∧ (i = l.length ∨ i = 5000) ∧ l.length ≤ 1 + 4 * i) ?_ fun rest => ?_
  · rintro σ7 H7 ⟨v9, v10, v11, v12, v13, v14, v15, l, xs, ks, i, rfl, O7, S7, hi, hil, l7⟩
    clear I6 s06 d6 h6 f6 s01 s02 s03 s04 h3 h4 t2 t3 t4 p1 p2 p3 p4 d4 k4 nfo nth nh nt s05 h5 k5 d5 f5
    have xll : xs.length = l.length := by simpa using congrArg List.length O7.xl
    have few := O7.op.few
    rw [List.length_take] at few
    refine ⟨_, rfl, fo, ksV ks, rfl, .inl O7.op.at_, fun pl bs npl isk => ?_⟩
    have hk : Paired (fun q b => TN H7 b q.1) ks bs := Paired.mapP (paired_mapL (f := fun q : List Nat × Addr => (skey q.1, V.ref q.2)) isk) fun q b e => by
      have e' : H7 b = some (.tup ((skey q.1).map kV)) := e
      rw [skey_kV] at e'
      exact e'
    have bl : ks.length = bs.length := Paired.length hk
    have s8 : Same H7 (upd H7 pl (.lst (bs.map .ref))) := Same.upd npl
    refine ⟨pl, rfl, ⟨_, SqL.of upd_same⟩, for_list (xs := bs.map V.ref) (fun j σ H' => ∃ v12 ks', σ = [some (.ref a), some (nV first), some (.ref r), some (.ref s'), some (.ref wt), some (nV 0), some (.ref hh), some (.ref th), some (.ref fo), v9, v10, v11, v12, v13, v14, v15] ∧ Same H H' ∧ H' pl = some (.lst (bs.map V.ref)) ∧ H' hh = some (.lst ((xs.map (·.2)).map V.ref)) ∧ Paired (fun q b => TN H' b q.1) ks bs ∧ OpAt H' fo (l.take i) ks' j ∧ ks'.map (·.1) = ks.map (·.1)) ?_ ?_ ?_ ?_⟩
    · exact ⟨_, ks, rfl, O7.sm.trans s8, upd_same, s8 _ _ O7.hh, Paired.mapP hk fun _ _ z => z.same s8, O7.op.same s8, rfl⟩
    · rintro j σ H9 _ ⟨_, _, _, _, e9, _⟩
      exact SqL.of e9
    · rintro j x σ H9 hx ⟨v12', ks', rfl, s9, e9, h9, k9, op9, ek⟩
      obtain ⟨b, hb, rfl⟩ := refs_back hx
      obtain ⟨q, hq, hbq⟩ := paired_at k9 hb
      have kl : ks'.length = ks.length := by simpa using congrArg List.length ek
      obtain ⟨q', hq'⟩ := get_lt (show j < ks'.length by rw [kl]; exact (List.getElem?_eq_some_iff.mp hq).1)
      have eq1 : q'.1 = q.1 := by
        have e1 : (ks'.map (·.1))[j]? = some q'.1 := by rw [List.getElem?_map, hq']; rfl
        rw [ek, List.getElem?_map, hq] at e1
        exact (Option.some.inj e1).symm
      obtain ⟨sts, hps, hpm, _⟩ := op9.prs j q' hq'
      have hv : valV (ksV ks') (skey q'.1) = some (.ref q'.2) := ks_some op9.nd (List.mem_of_getElem? hq')
      have hbt : H9 b = some (.tup ((skey q'.1).map kV)) := by rw [skey_kV, eq1]; exact hbq
      have dg : DGet H9 fo (.ref b) (valV (ksV ks') (skey q'.1)) := DGet.t op9.at_ hbt
      rw [hv] at dg
      obtain ⟨ps, hps1, hps2⟩ := hps
      have snd : sts.Nodup := hpm.nodup_iff.mpr (nodup_stOf (S7.nd.sublist (List.take_sublist _ _)) _)
      have stl : sts.length ≤ l.length := by
        rw [hpm.length_eq]
        unfold stOf
        rw [List.length_map]
        have := List.length_filter_le (fun p' => decide (p'.1 = q'.1)) (l.take i)
        rw [List.length_take] at this
        omega
      have h00 : ∀ m ∈ sts.map (fun s => (s, 0)), m.2 = 0 := fun m hm => by
        obtain ⟨s, _, rfl⟩ := List.mem_map.mp hm
        rfl
      have nd00 : (sts.map (fun s => (s, 0))).Nodup := by
        unfold List.Nodup
        rw [List.pairwise_map]
        exact snd.imp fun h z => h (congrArg Prod.fst z)
      refine ⟨_, rfl, _, rfl, fo, _, rfl, dg, ?_⟩
      refine ⟨q'.2, ps.map V.ref, sts.map (fun s => (s, 0)), fun x (m : Nat × Nat) => ∃ a, x = V.ref a ∧ H9 a = some (.tup [nV m.1, nV m.2]), rfl, SqL.of hps1, refs_prs hps2, fun x m hx => ?_, ⟨PySem.W.AllAlike.of fun a b => alike_pr a b, PySem.W.Sortable.tuples fun b => ⟨_, _, rfl⟩, fun b _ => by rw [depth_pr]; decide, by rw [List.length_map]; omega⟩, fun z ys nz pys => ?_⟩
      · obtain ⟨a', rfl, ha'⟩ := hx
        exact .tup (SqT.of ha') (.cons (.int _) (.cons (.int _) .nil))
      have pm := List.mergeSort_perm (sts.map (fun s => (s, 0))) (PySem.W.dataLe false encPr)
      obtain ⟨ps', rfl, hp'⟩ := prs_refs (fun m hm => h00 m (pm.mem_iff.mp hm)) pys
      have sorted := sort_prs _ nd00 h00
      have pm1 : ((sts.map (fun s => (s, 0))).mergeSort (PySem.W.dataLe false encPr)).map (·.1) |>.Perm sts := by
        have := pm.map (·.1)
        rw [List.map_map] at this
        rw [show ((fun x : Nat × Nat => x.1) ∘ fun s : Nat => (s, 0)) = id from rfl, List.map_id] at this
        exact this
      generalize ((sts.map (fun s => (s, 0))).mergeSort (PySem.W.dataLe false encPr)).map (·.1) = sts' at hp' sorted pm1
      clear pys pm
      have s10 : Same H9 (upd H9 z (.lst (ps'.map V.ref))) := Same.upd nz
      have e10 : PrsAt (upd H9 z (.lst (ps'.map V.ref))) z sts' := ⟨ps', upd_same, Paired.mapP hp' fun _ _ e => s10 _ _ e⟩
      generalize upd H9 z (.lst (ps'.map V.ref)) = H10 at s10 e10 ⊢
      have at10 := s10 _ _ op9.at_
      have dp := DPut.t (k := skey q'.1) (v := .ref z) at10 (s10 _ _ hbt) (by unfold ksV; rw [List.length_map]; omega)
      refine ⟨_, rfl, _, rfl, fo, _, rfl, dp, ?_⟩
      rw [putK_old hv]
      have oo : ∀ b o, H10 b = some o → (∀ kv, o ≠ .dT kv) → (upd H10 fo (.dT (ksV (replA ks' q'.1 z)))) b = some o := fun b o e no => by
        rw [upd_ne (ne_of e at10 (no _))]
        exact e
      refine ⟨_, replA ks' q'.1 z, rfl, Same.updR (s9.trans s10) nfo0, oo _ _ (s10 _ _ e9) (fun _ z => nomatch z), oo _ _ (s10 _ _ h9) (fun _ z => nomatch z), Paired.mapP k9 fun _ _ e => oo _ _ (s10 _ _ e) (fun _ z => nomatch z), ?_, by rw [replA_keys]; exact ek⟩
      exact op9.sort (sh := q'.1) (d0 := q'.2) hq' (fun _ _ e => oo _ _ (s10 _ _ e) fun _ z => nomatch z) (fun _ _ e => oo _ _ (s10 _ _ e) fun _ z => nomatch z) (e10.keep (fun _ e => oo _ _ e fun _ z => nomatch z) fun _ _ e => oo _ _ e fun _ z => nomatch z) (pm1.trans hpm) sorted upd_same
    · rintro σ H9 ⟨v12', ks', rfl, s9, e9, h9, k9, op9, ek⟩
      have kl : ks'.length = ks.length := by simpa using congrArg List.length ek
      have h9l : ((xs.map (·.2)).map V.ref).length = l.length := by rw [List.length_map, List.length_map, xll]
      refine ⟨_, rfl, hh, _, rfl, .inl (SqL.of h9), _, _, rfl, rfl, _, rfl, ite2 (fun h5 => ⟨_, rfl, ?_⟩) fun h5 => ?_⟩
      · have h5' := of_decide_eq_true h5
        rw [h9l] at h5'
        have hle := S7.le
        have eil : i = l.length := by omega
        subst eil
        rw [List.take_length, List.length_map, ← bl, ← kl] at op9
        exact qA H9 fo l s9 nfo0 ⟨S7.nd, fun p => ⟨S7.re p, S7.all⟩⟩ (by omega) ⟨ks', op9⟩
      · have h5' := of_decide_eq_false (Bool.not_eq_true _ ▸ h5)
        rw [h9l] at h5'
        exact qB H9 l s9 S7.nd S7.re (by omega)
  refine ⟨_, rfl, by decide, by decide, for_rangeN (fun i σ H' => ∃ v9 v10 v11 v12 v13 v14 v15 l xs ks, σ = [some (.ref a), some (nV first), some (.ref r), some (.ref s'), some (.ref wt), some (nV 0), some (.ref hh), some (.ref th), some (.ref fo), v9, v10, v11, v12, v13, v14, v15] ∧ OpI P w H H' hh th fo l xs ks (l.take i) ∧
    SI rs ss ts none first l i ∧ l.length ≤ 1 + 4 * i) ?_ ?_ ?_⟩
  · exact ⟨_, _, _, _, _, _, _, _, _, _, rfl, I6, SI.first, by simp⟩
  · rintro i σ H7 hi ⟨v9, v10, v11, v12, v13, v14, v15, l, xs, ks, rfl, O7, S7, l7⟩
    clear I6 s06 d6 h6 f6 s01 s02 s03 s04 h3 h4 t2 t3 t4 p1 p2 p3 p4 d4 k4 nfo nth nh nt s05 h5 k5 d5 f5
    have hi5 : i < 5000 := by simpa using hi
    have xll : xs.length = l.length := by simpa using congrArg List.length O7.xl
    refine ⟨_, rfl, _, rfl, hh, _, rfl, .inl (SqL.of O7.hh), rfl, _, rfl, ?_⟩
    rw [List.length_map, List.length_map, xll]
    by_cases hil : i = l.length
    · refine iteTb (by simp [hil]) ?_
      exact rest _ _ ⟨_, _, _, _, _, _, _, l, xs, ks, i, rfl, O7, S7, by omega, .inl hil, l7⟩
    refine iteFb (decide_eq_false fun z => hil (nV_inj z)) ?_
    have hlt : i < l.length := by have := S7.le; omega
    obtain ⟨p, hp⟩ := get_lt hlt
    obtain ⟨x, hx⟩ := get_lt (show i < xs.length by omega)
    have ex : x.1 = key3 p := by
      have e1 : (xs.map (·.1))[i]? = some x.1 := by rw [List.getElem?_map, hx]; rfl
      rw [O7.xl, List.getElem?_map, hp] at e1
      exact (Option.some.inj e1).symm
    have hpr : Reach rs ss ts none first p := S7.re _ (List.mem_of_getElem? hp)
    have k7 := O7.d3.keys x (List.mem_of_getElem? hx)
    rw [ex] at k7
    obtain ⟨sa, hx2, hsa⟩ := at3_back k7
    refine ⟨_, rfl, _, rfl, _, _, _, .ref x.2, rfl, rfl, SqL.of O7.hh, atI_nat (by rw [List.getElem?_map, List.getElem?_map, hx]; rfl), x.2, _, rfl, SqT.of hx2, rfl, _, _, rfl, _, _, rfl, _, _, rfl, rfl, ?_⟩
    -- found[showing] = ..
    refine ⟨_, rfl, fo, rfl, .inr ⟨_, .inl O7.op.at_⟩, _, rfl, by show 0 ≤ sizeLine; decide, fun z8 nz8 => ?_⟩
    have s8 : Same H7 (upd H7 z8 (.lst [])) := Same.upd nz8
    have z8e : (upd H7 z8 (.lst [])) z8 = some (.lst []) := upd_same
    generalize upd H7 z8 (.lst []) = H8 at s8 z8e ⊢
    have dg := DGet.t (k := skey p.1) (s8 _ _ O7.op.at_) (show H8 sa = some (.tup ((skey p.1).map kV)) by rw [skey_kV]; exact hsa.same s8)
    refine ⟨_, dg, ?_⟩
    obtain ⟨dd, sts, edd, hps, hpm⟩ : ∃ dd sts, (valV (ksV ks) (skey p.1)).getD (V.ref z8) = .ref dd ∧ PrsAt H8 dd sts ∧ sts.Perm (stOf (l.take i) p.1) := by
      cases e : valV (ksV ks) (skey p.1) with
      | none =>
        have hno := ks_none e
        refine ⟨z8, [], rfl, ⟨[], z8e, .nil⟩, ?_⟩
        rw [stOf_nil fun p' hp' e' => by
          obtain ⟨d, hd⟩ := O7.op.all p' hp'
          exact hno _ hd e']
      | some v =>
        obtain ⟨d, hd, rfl⟩ := ks_of e
        obtain ⟨j, hj⟩ := List.mem_iff_getElem?.mp hd
        obtain ⟨sts, h1, h2, _⟩ := O7.op.prs j _ hj
        exact ⟨d, sts, rfl, h1.same s8, h2⟩
    rw [edd]
    refine ⟨_, rfl, _, rfl, by show 2 ≤ sizeLine; decide, fun pr npr => ⟨by show 1 ≤ sizeLine; decide, fun q nq => ?_⟩⟩
    have s9 := s8.trans ((Same.upd npr (o := .tup [nV p.2, nV 0])).trans (Same.upd nq (o := .lst [.ref pr])))
    have hps9 := hps.same ((Same.upd npr (o := .tup [nV p.2, nV 0])).trans (Same.upd nq (o := .lst [.ref pr])))
    have hpr9 : (upd (upd H8 pr (.tup [nV p.2, nV 0])) q (.lst [.ref pr])) pr = some (.tup [nV p.2, nV 0]) := (Same.upd nq) _ _ upd_same
    have hq9 : (upd (upd H8 pr (.tup [nV p.2, nV 0])) q (.lst [.ref pr])) q = some (.lst [.ref pr]) := upd_same
    generalize upd (upd H8 pr (.tup [nV p.2, nV 0])) q (.lst [.ref pr]) = H9 at s9 hps9 hpr9 hq9 ⊢
    clear hps dg z8e s8 npr nq
    obtain ⟨ps, hps1, hps2⟩ := hps9
    have psl : ps.length = sts.length := Paired.length hps2
    have stl : sts.length ≤ l.length := by
      rw [hpm.length_eq]
      unfold stOf
      rw [List.length_map]
      have := List.length_filter_le (fun p' => decide (p'.1 = p.1)) (l.take i)
      rw [List.length_take] at this
      omega
    refine ⟨dd, q, _, _, rfl, rfl, hps1, hq9, by rw [List.length_map]; simp; omega, fun nw nnw => ?_⟩
    have s10 := s9.trans (Same.upd nnw (o := .lst (ps.map V.ref ++ [V.ref pr])))
    have nw0 : H nw = none := (O7.sm.trans s9).free nnw
    have pr10 : PrsAt (upd H9 nw (.lst (ps.map V.ref ++ [V.ref pr]))) nw (sts ++ [p.2]) := ⟨ps ++ [pr], by rw [upd_same, List.map_append]; rfl, paired_app (Paired.mapP hps2 fun _ _ z => (Same.upd nnw) _ _ z) (.cons ((Same.upd nnw) _ _ hpr9) .nil)⟩
    generalize upd H9 nw (.lst (ps.map V.ref ++ [V.ref pr])) = H10 at s10 pr10 ⊢
    clear s9 hps1 hps2 hpr9 hq9 nnw
    have op10 := O7.op.same s10
    have ksl := O7.op.few
    rw [List.length_take] at ksl
    have dp := DPut.t (k := skey p.1) (v := .ref nw) op10.at_ (show H10 sa = some (.tup ((skey p.1).map kV)) by rw [skey_kV]; exact hsa.same s10) (by unfold ksV; rw [List.length_map]; omega)
    refine ⟨_, rfl, _, rfl, fo, _, rfl, dp, ?_⟩
    have oo : ∀ b o, H10 b = some o → (∀ kv, o ≠ .dT kv) → (upd H10 fo (.dT (putK (ksV ks) (skey p.1) (.ref nw)))) b = some o := fun b o e no => by
      rw [upd_ne (ne_of e op10.at_ (no _))]
      exact e
    have s11 : Same H (upd H10 fo (.dT (putK (ksV ks) (skey p.1) (.ref nw)))) := Same.updR (O7.sm.trans s10) nfo0
    have tk : l.take (i + 1) = l.take i ++ [p] := by rw [List.take_add_one, hp]; rfl
    obtain ⟨ks', op11⟩ := op10.more (H' := upd H10 fo (.dT (putK (ksV ks) (skey p.1) (.ref nw)))) (z := nw) (p := p) (fun a xs e => oo _ _ e fun kv z => by cases z) (fun a xs e => oo _ _ e fun kv z => by cases z) ⟨sts, pr10.keep (fun xs e => oo _ _ e fun kv z => by cases z) (fun a xs e => oo _ _ e fun kv z => by cases z), hpm⟩
      (fun ⟨v, e⟩ => by rw [upd_same, putK_old e]) fun e => by rw [upd_same, putK_ks e]
    rw [← tk] at op11
    have O11 : OpI P w H (upd H10 fo (.dT (putK (ksV ks) (skey p.1) (.ref nw)))) hh th fo l xs ks' (l.take (i + 1)) := by
      refine ⟨s11, oo _ _ (s10 _ _ O7.hh) (fun kv z => by cases z), ⟨oo _ _ (s10 _ _ O7.d3.at_) (fun kv z => by cases z), fun x hx => ?_, O7.d3.nodup, O7.d3.few⟩, O7.xl, op11⟩
      obtain ⟨q, h1, h2⟩ := O7.d3.keys x hx
      exact ⟨q, oo _ _ (s10 _ _ h1) (fun kv z => by cases z), oo _ _ (s10 _ _ h2) (fun kv z => by cases z)⟩
    have sa11 : TN (upd H10 fo (.dT (putK (ksV ks) (skey p.1) (.ref nw)))) sa p.1 := oo _ _ (s10 _ _ hsa) fun kv z => by cases z
    generalize upd H10 fo (.dT (putK (ksV ks) (skey p.1) (.ref nw))) = H11 at O11 sa11 ⊢
    clear oo s11 op11 dp op10 pr10 s10 hx2 hsa k7 O7
    have hsl : p.1.length = rs.length := hpr.len
    obtain ⟨wz, hw1, hw2⟩ := id hw
    have hal : (as.map V.ref).length = ts.length := by rw [List.length_map, hlen]
    refine ⟨_, rfl, a, _, rfl, .inr (SqT.of (O11.sm _ _ hta)), _, rfl, by omega, by omega, for_rangeN (fun d σ H' => ∃ v13 v14 v15 xs, σ = [some (.ref a), some (nV first), some (.ref r), some (.ref s'), some (.ref wt), some (nV 0), some (.ref hh), some (.ref th), some (.ref fo), some (nV i), some (nV p.2), some (nV 0), some (.ref sa), v13, v14, v15] ∧ OpI P w H H' hh th fo (foldP rs ss ts none p l d) xs ks' (l.take (i + 1)) ∧ TN H' sa p.1) ?_ ?_ ?_⟩
    · exact ⟨v13, v14, v15, xs, rfl, O11, sa11⟩
    · rintro d σ H12 hd ⟨v13, v14, v15, xs2, rfl, O12, sa12⟩
      have hd' : d < ts.length := by omega
      obtain ⟨tt, htt⟩ := get_lt (show d < rs.length by omega)
      obtain ⟨st, hst⟩ := get_lt (show d < ss.length by omega)
      obtain ⟨m, hm⟩ := get_lt (show d < p.1.length by omega)
      have m12 := O12.sm
      refine ⟨_, rfl, _, rfl, _, _, _, _, rfl, rfl, LN.sq (hR.same m12), atI_nat (nVs_get htt), _, rfl, _, rfl, _, _, _, _, rfl, rfl, LN.sq (hS.same m12), atI_nat (nVs_get hst), _, rfl, _, rfl, _, _, _, _, rfl, rfl, TN.sq sa12, atI_nat (nVs_get hm), _, _, rfl, rfl, tt, st, m + 1, rfl, ?_⟩
      obtain ⟨row, hrow⟩ := get_lt hd'
      obtain ⟨ra, hra, hrt⟩ := paired_at hpa hrow
      have hp2 : p.2 < n := hpr.lt ok hf
      obtain ⟨x', hx'⟩ := get_lt (show p.2 < row.length by rw [ok.len row (List.mem_of_getElem? hrow)]; exact hp2)
      refine ⟨_, rfl, _, rfl, _, _, _, _, rfl, rfl, SqT.of (m12 _ _ hta), atI_nat (refs_at hra), _, rfl, _, _, _, _, rfl, rfl, TN.sq (hrt.same m12), atI_nat (nVs_get hx'), _, rfl, _, rfl, _, _, _, .ref wz, rfl, rfl, SqL.of (m12 _ _ hw1), atI_nat (by rw [List.getElem?_replicate, if_pos hd']), _, rfl, _, _, _, _, rfl, rfl, TN.sq (hw2.same m12), rfl, ?_⟩
      refine splice (sh := p.1) (d := d) (m := shAs tt st (m + 1)) sa12 (by omega) (by omega) (fun H' Q _ q => ⟨_, rfl, q⟩) (fun H' Q _ q => ⟨_, rfl, q⟩) (fun H' Q _ q => ⟨_, rfl, q _ (Same.refl _)⟩) fun H13 sb s13 eb => ?_
      refine ⟨by show 3 ≤ sizeLine; decide, fun nt nnt => ?_⟩
      have s14 := s13.trans (Same.upd nnt (o := .tup [nV x', nV 0, .ref sb]))
      have e14 : (upd H13 nt (.tup [nV x', nV 0, .ref sb])) nt = some (.tup [nV x', nV 0, .ref sb]) := upd_same
      have eb14 := eb.same (Same.upd nnt (o := .tup [nV x', nV 0, .ref sb]))
      generalize upd H13 nt (.tup [nV x', nV 0, .ref sb]) = H14 at s14 e14 eb14 ⊢
      have esucc : succP rs ss ts p d = (p.1.set d (shAs tt st (m + 1)), x') := by
        unfold succP nextSh
        rw [getD_of htt, getD_of hst, getD_of hm, getD_of hrow, getD_of hx']
      have k14 : At3 H14 nt (key3 (p.1.set d (shAs tt st (m + 1)), x')) := at3_key e14 eb14
      generalize (p.1.set d (shAs tt st (m + 1)), x') = pn at esucc k14
      have O14 := O12.same s14
      have efold : foldP rs ss ts none p l (d + 1) = addP (foldP rs ss ts none p l d) pn := by
        rw [foldP_succ]
        unfold stepP
        rw [if_pos (show inLim rs none (succP rs ss ts p d).fst = true from rfl), esucc]
      refine ⟨_, rfl, _, rfl, th, nt, xs2, _, rfl, rfl, O14.d3, k14, _, rfl, ?_⟩
      by_cases hin : pn ∈ foldP rs ss ts none p l d
      · have hk : key3 pn ∈ xs2.map (·.1) := by rw [O14.xl]; exact List.mem_map.mpr ⟨_, hin, rfl⟩
        refine iteNT hk ?_
        refine ⟨_, _, _, xs2, rfl, ?_, sa12.same s14⟩
        rw [efold]
        unfold addP
        rw [if_pos hin]
        exact O14
      · have hk : key3 pn ∉ xs2.map (·.1) := by
          rw [O14.xl]
          intro z
          obtain ⟨y, hy, e⟩ := List.mem_map.mp z
          exact hin (key3_inj e ▸ hy)
        have xl2 : xs2.length = (foldP rs ss ts none p l d).length := by simpa using congrArg List.length O14.xl
        have fl := foldP_len rs ss ts none p l d
        refine iteND hk ⟨_, rfl, _, rfl, th, nt, xs2, _, rfl, rfl, rfl, O14.d3, k14, hk, by omega, ?_⟩
        have d15 := O14.d3.put k14 hk (by omega)
        have oo : ∀ b o, H14 b = some o → (∀ xs, o ≠ nd3 P w th xs) → (upd H14 th (nd3 P w th (xs2 ++ [(key3 pn, nt)]))) b = some o := fun b o e no => by
          rw [upd_ne (ne_of e O14.d3.at_ (no _))]
          exact e
        have h15 := oo _ _ O14.hh (fun _ z => nomatch z)
        have o16 : ∀ b o, (upd H14 th (nd3 P w th (xs2 ++ [(key3 pn, nt)]))) b = some o → b ≠ hh → (upd (upd H14 th (nd3 P w th (xs2 ++ [(key3 pn, nt)]))) hh (.lst ((xs2.map (·.2)).map V.ref ++ [.ref nt]))) b = some o := fun b o e nb => by
          rw [upd_ne nb]
          exact e
        have nl : ∀ b o, (upd H14 th (nd3 P w th (xs2 ++ [(key3 pn, nt)]))) b = some o → (∀ xs, o ≠ .lst xs) → b ≠ hh := fun b o e no => ne_of e h15 (no _)
        refine ⟨_, rfl, .inl ⟨rfl, _, SqL.of h15⟩, _, rfl, hh, _, _, rfl, rfl, h15, by rw [List.length_map, List.length_map]; omega, ?_⟩
        have ne14 := O14.ne
        refine ⟨_, _, _, xs2 ++ [(key3 pn, nt)], rfl, ⟨Same.updR (Same.updR O14.sm nth0) nh0, ?_, ⟨o16 _ _ d15.at_ (nl _ _ d15.at_ fun _ z => nomatch z), fun x hx => ?_, d15.nodup, d15.few⟩, ?_, ?_⟩, ?_⟩
        · rw [upd_same, List.map_append, List.map_append]
          rfl
        · obtain ⟨q, h1, h2⟩ := d15.keys x hx
          exact ⟨q, o16 _ _ h1 (nl _ _ h1 fun _ z => nomatch z), o16 _ _ h2 (nl _ _ h2 fun _ z => nomatch z)⟩
        · rw [efold]
          unfold addP
          rw [if_neg hin, List.map_append, List.map_append, O14.xl]
          rfl
        · refine O14.op.keep (o16 _ _ (oo _ _ O14.op.at_ fun _ z => nomatch z) (nl _ _ (oo _ _ O14.op.at_ fun _ z => nomatch z) fun _ z => nomatch z)) (fun a' xs' e he => ?_) fun a' xs' e => ?_
          · obtain ⟨q, hq, rfl⟩ := he
            exact o16 _ _ (oo _ _ e fun _ z => nomatch z) (ne14 q hq)
          · exact o16 _ _ (oo _ _ e fun _ z => nomatch z) (nl _ _ (oo _ _ e fun _ z => nomatch z) fun _ z => nomatch z)
        · have e := oo _ _ (sa12.same s14) fun _ z => nomatch z
          exact o16 _ _ e (nl _ _ e fun _ z => nomatch z)
    · rintro σ H12 ⟨v13, v14, v15, xs2, rfl, O12, sa12⟩
      have en : ((((as.map V.ref).length : Nat) : Int)).toNat = ts.length := by rw [Int.toNat_natCast]; exact hal
      rw [en] at O12
      have SFx := SF.fold S7 hpr ts.length (Nat.le_refl _)
      have S8 := SFx.done S7 hp
      obtain ⟨more, epre⟩ := SFx.pre
      have etk : (foldP rs ss ts none p l ts.length).take (i + 1) = l.take (i + 1) := by rw [epre, List.take_append_of_le_length (by omega)]
      refine ⟨_, _, _, _, _, _, _, _, xs2, ks', rfl, by rw [etk]; exact O12, S8, by have := foldP_len rs ss ts none p l ts.length; omega⟩
  · rintro σ H7 ⟨v9, v10, v11, v12, v13, v14, v15, l, xs, ks, rfl, O7, S7, l7⟩
    exact rest _ _ ⟨_, _, _, _, _, _, _, l, xs, ks, 5000, rfl, O7, S7, Nat.le_refl _, .inr rfl, l7⟩
end
end Ow

/-! ## M5 -/
set_option Elab.async false
set_option linter.all false
/-! Full counters: what is led to by so many of each deed -/
namespace Ow
open PySem
section
variable {ts : List (List Nat)} {ss : List Nat} {first : Nat}
def Cnt (ts : List (List Nat)) (ss : List Nat) (first : Nat) (row : List Nat) (s : Nat) : Prop := Reach (List.replicate ts.length 0) ss ts none first (row, s)
theorem rep0 (k d : Nat) : (List.replicate k 0).getD d 0 = 0 := by
  rw [List.getD_eq_getElem?_getD, List.getElem?_replicate]
  split <;> rfl
theorem next0 (k : Nat) (ss sh : List Nat) (d : Nat) : nextSh (List.replicate k 0) ss sh d = sh.set d (sh.getD d 0 + 1) := by
  unfold nextSh
  rw [rep0]
  congr 1
theorem getD_set (l : List Nat) (d v i : Nat) (h : d < l.length) : (l.set d v).getD i 0 = if i = d then v else l.getD i 0 := by
  rw [List.getD_eq_getElem?_getD, List.getElem?_set, List.getD_eq_getElem?_getD]
  by_cases e : d = i
  · subst e
    rw [if_pos rfl, if_pos h, if_pos rfl]
    rfl
  · rw [if_neg e, if_neg fun z => e z.symm]
theorem set_back (l : List Nat) (d v : Nat) (h : d < l.length) : (l.set d v).set d (l.getD d 0) = l := by
  rw [List.set_set]
  have e : l.getD d 0 = l[d] := by rw [List.getD_eq_getElem?_getD, List.getElem?_eq_getElem h]; rfl
  rw [e]
  exact List.set_getElem_self h
theorem cnt_len {row : List Nat} {s : Nat} (h : Cnt ts ss first row s) : row.length = ts.length := by
  have := Reach.len h
  simpa using this
theorem cnt_rec {row : List Nat} {s : Nat} (hl : row.length = ts.length) : Cnt ts ss first row s ↔ (row = List.replicate ts.length 0 ∧ s = first) ∨ ∃ d, d < ts.length ∧ 0 < row.getD d 0 ∧ ∃ s', Cnt ts ss first (row.set d (row.getD d 0 - 1)) s' ∧ s = (ts.getD d []).getD s' 0 := by
  constructor
  · intro h
    unfold Cnt at h
    generalize e : (row, s) = q at h
    cases h with
    | start =>
      injection e with e1 e2
      exact .inl ⟨by simpa using e1, e2⟩
    | @step p d hp hd _ =>
      have hpl : p.1.length = ts.length := by simpa using hp.len
      unfold succP at e
      rw [next0] at e
      injection e with e1 e2
      have g : row.getD d 0 = p.1.getD d 0 + 1 := by rw [e1, getD_set _ _ _ _ (by omega), if_pos rfl]
      refine .inr ⟨d, hd, by omega, p.2, ?_, e2⟩
      have e3 : row.set d (row.getD d 0 - 1) = p.1 := by
        rw [g, e1, Nat.add_sub_cancel, set_back _ _ _ (by omega)]
      unfold Cnt
      rw [e3]
      exact hp
  · rintro (⟨e1, e2⟩ | ⟨d, hd, hpos, s', hc, e⟩)
    · subst e1 e2
      have := Reach.start (rs := List.replicate ts.length 0) (ss := ss) (ts := ts) (lim := none) (start := s)
      rw [List.length_replicate] at this
      exact this
    · have := Reach.step d hc hd rfl
      unfold succP at this
      rw [next0] at this
      simp only at this
      rw [getD_set _ _ _ _ (by omega), if_pos rfl, Nat.sub_add_cancel hpos, set_back _ _ _ (by omega), ← e] at this
      exact this
theorem cnt_lim {ns : List Nat} {p : Pl} : Reach (List.replicate ts.length 0) ss ts (some ns) first p ↔ Cnt ts ss first p.1 p.2 ∧ ∀ i, i < ts.length → p.1.getD i 0 ≤ ns.getD i 0 := by
  have lim : ∀ sh, inLim (List.replicate ts.length 0) (some ns) sh = true ↔ ∀ i, i < ts.length → sh.getD i 0 ≤ ns.getD i 0 := fun sh => by
    unfold inLim
    simp only [List.all_eq_true, List.mem_range, List.length_replicate, rep0]
    constructor
    · intro h i hi
      simpa using h i hi
    · intro h i hi
      simpa using h i hi
  constructor
  · intro h
    induction h with
    | start => exact ⟨.start, fun i _ => by
        show (List.replicate _ 0).getD i 0 ≤ _
        rw [rep0]
        exact Nat.zero_le _⟩
    | step d _ hd hl ih => exact ⟨.step d ih.1 hd rfl, (lim _).mp hl⟩
  · rintro ⟨h, hle⟩
    obtain ⟨row, s⟩ := p
    unfold Cnt at h
    generalize e : ((row, s) : Pl) = q at h
    have hle' : ∀ i, i < ts.length → q.1.getD i 0 ≤ ns.getD i 0 := by rw [← e]; exact hle
    clear hle
    clear e row s
    induction h with
    | start => exact .start
    | @step p d hp hd _ ih =>
      have hpl : p.1.length = ts.length := by simpa using hp.len
      refine .step d (ih fun i hi => ?_) hd ((lim _).mpr hle')
      have h1 := hle' i hi
      unfold succP at h1
      rw [next0] at h1
      simp only at h1
      rw [getD_set _ _ _ _ (by omega)] at h1
      by_cases z : i = d
      · subst z
        rw [if_pos rfl] at h1
        omega
      · rw [if_neg z] at h1
        exact h1
end
theorem sum_zero {row : List Nat} : (intsOf row).sum = 0 ↔ row = List.replicate row.length 0 := by
  induction row with
  | nil => simp [intsOf]
  | cons x row ih =>
    have nn : 0 ≤ (intsOf row).sum := by
      clear ih
      induction row with
      | nil => simp [intsOf]
      | cons y row ih2 =>
        unfold intsOf at ih2 ⊢
        rw [List.map_cons, List.sum_cons]
        omega
    have e : (intsOf (x :: row)).sum = (x : Int) + (intsOf row).sum := by unfold intsOf; rw [List.map_cons, List.sum_cons]
    rw [e, List.length_cons, List.replicate_succ]
    constructor
    · intro h
      have hx : x = 0 := by omega
      have hs : (intsOf row).sum = 0 := by omega
      rw [hx, ← ih.mp hs]
    · intro h
      injection h with h1 h2
      have := ih.mpr h2
      omega
theorem less_lt : ∀ (row : List Nat) (d : Nat), d < row.length → 0 < row.getD d 0 → sltL (row.set d (row.getD d 0 - 1)) row
  | [], _, h, _ => absurd h (Nat.not_lt_zero _)
  | x :: row, 0, _, hp => by
    have hp' : 0 < x := hp
    show intsOf ((x - 1) :: row) < intsOf (x :: row)
    unfold intsOf
    rw [List.map_cons, List.map_cons, List.cons_lt_cons_iff]
    left
    omega
  | x :: row, d + 1, h, hp => by
    have ih := less_lt row d (by simpa using h) hp
    show intsOf (x :: row.set d (row.getD d 0 - 1)) < intsOf (x :: row)
    unfold sltL intsOf at ih
    unfold intsOf
    rw [List.map_cons, List.map_cons, List.cons_lt_cons_iff]
    exact .inr ⟨rfl, ih⟩
/-- all rows up to the numbers, the first i columns -/
def moreRow (n : Nat) (row : List Nat) : List (List Nat) := (List.range (n + 1)).map fun m => row ++ [m]
def rowsT (ns : List Nat) : Nat → List (List Nat)
  | 0 => [[]]
  | i + 1 => (rowsT ns i).flatMap (moreRow (ns.getD i 0))
theorem mem_rowsT {ns : List Nat} : ∀ {i : Nat} {row : List Nat}, row ∈ rowsT ns i ↔ row.length = i ∧ ∀ k, k < i → row.getD k 0 ≤ ns.getD k 0
  | 0, row => by
    unfold rowsT
    rw [List.mem_singleton]
    constructor
    · intro h
      subst h
      exact ⟨rfl, fun k hk => absurd hk (Nat.not_lt_zero _)⟩
    · intro h
      exact List.eq_nil_of_length_eq_zero h.1
  | i + 1, row => by
    unfold rowsT moreRow
    rw [List.mem_flatMap]
    constructor
    · rintro ⟨r0, h0, h1⟩
      obtain ⟨m, hm, rfl⟩ := List.mem_map.mp h1
      obtain ⟨a, b⟩ := mem_rowsT.mp h0
      have hm' := List.mem_range.mp hm
      refine ⟨by simp [a], fun k hk => ?_⟩
      rw [List.getD_eq_getElem?_getD]
      rcases Nat.lt_or_ge k i with z | z
      · rw [List.getElem?_append_left (by omega), ← List.getD_eq_getElem?_getD]
        exact b k z
      · have e : k = i := by omega
        subst e
        rw [List.getElem?_append_right (by omega), a, Nat.sub_self]
        show m ≤ _
        omega
    · rintro ⟨a, b⟩
      have hne : row ≠ [] := fun z => by rw [z] at a; cases a
      refine ⟨row.dropLast, mem_rowsT.mpr ⟨by simp [a], fun k hk => ?_⟩, List.mem_map.mpr ⟨row.getD i 0, List.mem_range.mpr (by have := b i (by omega); omega), ?_⟩⟩
      · have := b k (by omega)
        rw [List.getD_eq_getElem?_getD, List.getElem?_dropLast, if_pos (by omega), ← List.getD_eq_getElem?_getD]
        exact this
      · have e : row.getD i 0 = row.getLast hne := by
          rw [List.getLast_eq_getElem, List.getD_eq_getElem?_getD]
          have : row.length - 1 = i := by omega
          simp only [this]
          rw [List.getElem?_eq_getElem (by omega)]
          rfl
        rw [e]
        exact List.dropLast_concat_getLast hne
theorem flat_len {α β : Type} (f : α → List β) (c : Nat) : ∀ l : List α, (∀ x ∈ l, (f x).length ≤ c) → (l.flatMap f).length ≤ l.length * c
  | [], _ => by simp
  | x :: l, h => by
    have h1 := h x List.mem_cons_self
    have h2 := flat_len f c l fun y hy => h y (List.mem_cons_of_mem _ hy)
    rw [List.flatMap_cons, List.length_append, List.length_cons, Nat.succ_mul]
    omega
theorem rowsT_len {ns : List Nat} (h : ∀ n ∈ ns, n ≤ 3) : ∀ i, (rowsT ns i).length ≤ 4 ^ i
  | 0 => Nat.le_refl _
  | i + 1 => by
    have ih := rowsT_len h i
    have hi : ns.getD i 0 ≤ 3 := by
      rw [List.getD_eq_getElem?_getD]
      cases e : ns[i]? with
      | none => exact Nat.zero_le _
      | some x => exact h x (List.mem_of_getElem? e)
    have := flat_len (moreRow (ns.getD i 0)) 4 (rowsT ns i) fun x _ => by
      unfold moreRow
      rw [List.length_map, List.length_range]
      omega
    unfold rowsT
    rw [Nat.pow_succ]
    exact Nat.le_trans this (Nat.mul_le_mul_right 4 ih)
theorem flat_take {α β : Type} (f : α → List β) {l : List α} {j : Nat} {x : α} (h : l[j]? = some x) : (l.take (j + 1)).flatMap f = (l.take j).flatMap f ++ f x := by
  rw [List.take_add_one, h, List.flatMap_append]
  simp
end Ow

/-! ## W20 -/
set_option Elab.async false
set_option linter.all false
set_option maxRecDepth 100000
set_option maxHeartbeats 16000000
/-! _law_led -/
namespace Ow
open PySem PySem.Spec PyProof.Rows L2
def TNs (H : Hp) (x : V) (row : List Nat) : Prop := ∃ a, x = V.ref a ∧ TN H a row
theorem TNs.same {H H' : Hp} {x : V} {row : List Nat} (h : TNs H x row) (s : Same H H') : TNs H' x row := let ⟨a, e, t⟩ := h; ⟨a, e, t.same s⟩
/-- what the dict of led states holds for the rows done -/
def LedAt (H : Hp) (d : Addr) (ts : List (List Nat)) (first : Nat) (done : List (List Nat)) (b : Nat) : Prop := ∃ kvs, H d = some (.dT kvs) ∧ kvs.length ≤ b ∧ ∀ row ∈ done, ∃ a l, valV kvs (skey row) = some (.ref a) ∧ LN H a l ∧ l.Pairwise (· < ·) ∧ l.length ≤ 8 ∧ ∀ s, s ∈ l ↔ Cnt ts [] first row s
theorem paired_of_get {α β : Type} {R : α → β → Prop} : ∀ {xs : List α} {ys : List β}, xs.length = ys.length → (∀ (j : Nat) x y, xs[j]? = some x → ys[j]? = some y → R x y) → Paired R xs ys
  | [], [], _, _ => .nil
  | [], _ :: _, e, _ => by cases e
  | _ :: _, [], e, _ => by cases e
  | x :: xs, y :: ys, e, h => .cons (h 0 x y rfl rfl) (paired_of_get (Nat.succ.inj e) fun j x y e1 e2 => h (j + 1) x y e1 e2)
theorem sorted_before {S : List (List Nat)} {j : Nat} {row row' : List Nat} (pw : S.Pairwise fun a b => ¬ sltL b a) (hj : S[j]? = some row) (hm : row' ∈ S) (hlt : sltL row' row) : row' ∈ S.take j := by
  obtain ⟨i, hi⟩ := List.mem_iff_getElem?.mp hm
  obtain ⟨hi1, hi2⟩ := List.getElem?_eq_some_iff.mp hi
  obtain ⟨hj1, hj2⟩ := List.getElem?_eq_some_iff.mp hj
  rcases Nat.lt_trichotomy i j with c | c | c
  · exact List.mem_of_getElem? (i := i) (by rw [List.getElem?_take, if_pos c]; exact hi)
  · subst c
    rw [hi] at hj
    rw [Option.some.inj hj] at hlt
    exact absurd hlt (sltL_irr _)
  · have := List.pairwise_iff_getElem.mp pw j i hj1 hi1 c
    rw [hi2, hj2] at this
    exact absurd hlt this
theorem sortable_shs {bs : List (List Nat)} (h : ∀ b ∈ bs, b ≠ []) : PySem.W.Sortable (bs.map encSh) := .inl fun d hd => by
  obtain ⟨b, hb, rfl⟩ := List.mem_map.mp hd
  cases b with
  | nil => exact absurd rfl (h _ hb)
  | cons x r => exact ⟨_, _, rfl⟩
theorem vs_eq {g : Nat → Nat} : ∀ {ys : List V} {l : List Nat}, ys.length = l.length → (∀ (i : Nat) y, ys[i]? = some y → ∃ s', l[i]? = some s' ∧ y = nV (g s')) → ys = nVs (l.map g)
  | [], [], _, _ => rfl
  | [], _ :: _, e, _ => by cases e
  | _ :: _, [], e, _ => by cases e
  | y :: ys, x :: l, e, h => by
    obtain ⟨s', h1, h2⟩ := h 0 y rfl
    cases h1
    rw [h2, vs_eq (ys := ys) (l := l) (Nat.succ.inj e) fun i y hy => h (i + 1) y hy]
    rfl
/-- sorted numbers that are the states of a list -/
theorem ints_nats {nsr : List Int} {st : List Nat} (pw : nsr.Pairwise (· < ·)) (h : ∀ k, k ∈ nsr ↔ k ∈ intsOf st) : ∃ l : List Nat, nsr.map V.int = nVs l ∧ l.Pairwise (· < ·) ∧ ∀ s, s ∈ l ↔ s ∈ st := by
  have back : ∀ z ∈ nsr, ((Int.toNat z : Nat) : Int) = z := fun z hz => by
    obtain ⟨s, _, rfl⟩ := List.mem_map.mp ((h z).mp hz)
    rfl
  refine ⟨nsr.map Int.toNat, ?_, ?_, fun s => ?_⟩
  · rw [nVs, List.map_map]
    exact List.map_congr_left fun z hz => by
      show V.int z = V.int ((Int.toNat z : Nat) : Int)
      rw [back z hz]
  · rw [List.pairwise_map]
    refine pw.imp_of_mem fun {a b} ha hb hab => ?_
    have h1 := back a ha
    have h2 := back b hb
    omega
  · rw [List.mem_map]
    constructor
    · rintro ⟨z, hz, rfl⟩
      obtain ⟨s, hs, e⟩ := List.mem_map.mp ((h z).mp hz)
      rw [← e]
      exact hs
    · intro hs
      exact ⟨(s : Int), (h _).mpr (List.mem_map.mpr ⟨s, hs, rfl⟩), rfl⟩
theorem few_states {l : List Nat} {n : Nat} (h : l.Pairwise (· < ·)) (hn : n ≤ 8) (hl : ∀ s ∈ l, s < n) : l.length ≤ 8 := by
  have := nodup_le l (List.range n) (h.imp fun h => Nat.ne_of_lt h) fun s hs => List.mem_range.mpr (hl s hs)
  rw [List.length_range] at this
  omega
section
variable {P : Program} {w : World} {K : PySem.W.Frag} {mg : Str → Option Value} {base : Heap}
def spLed : Sp := fun vs H Q _ => ∃ (a nl : Addr) (ts : List (List Nat)) (n first : Nat) (ns : List Nat), vs = [.ref a, nV first, .ref nl] ∧ TT2 H a ts ∧ TbOk ts n ∧ first < n ∧ LN H nl ns ∧ ns.length = ts.length ∧ (∀ m ∈ ns, m ≤ 3) ∧
  ∀ H' p l, Same H H' → TN H' p l → l.Pairwise (· < ·) → (∀ s, s ∈ l ↔ Cnt ts [] first ns s) → Q (.ref p) H'
theorem ok_law_led {f : Addr} {fd : FuncData} (F : Fun K "_law_led" "_law_led" s_law_led f fd) (T : Tx mg) : FnOk P w K mg base CX0 1 f fd ["_law_tables_here", "_law_first", "_law_numbers"] spLed := by
  refine F.ok c_law_led (fun vs H Q E h => ?_) (fun cdv A outer s H vs Q E hr h => ?_)
  · obtain ⟨a, nl, ts, n, first, ns, rfl, _⟩ := h
    rfl
  obtain ⟨a, nl, ts, n, first, ns, rfl, ha, ok, hf, hN, hl, h3, q⟩ := h
  refine ⟨_, pss_cons (ps_set (i := 3) c_law_led.nd rfl (Or.inl rfl) (pe_dnewT))
  (pss_cons (ps_set (i := 4) c_law_led.nd rfl (Or.inl rfl) (pe_lst (pa_cons (pe_tup (pa_nil)) (pa_nil))))
  (pss_cons (ps_for PassesOwn.never rfl (pi_listK K (pv 2)) (pg_name (i := 5) c_law_led.nd rfl (Or.inl rfl))
    (pss_cons (ps_set (i := 6) c_law_led.nd rfl (Or.inl rfl) (pe_lst (pa_nil)))
  (pss_cons (ps_for PassesOwn.never rfl (pi_listK K (pv 4)) (pg_name (i := 7) c_law_led.nd rfl (Or.inr rfl))
    (pss_one (ps_set (i := 6) c_law_led.nd rfl (Or.inl rfl) (pe_op op_cat (pv 6) (pe_lc (own := [("_law_many", 11)]) (g := gName 11) (tt := tYes) rfl c_law_led.nd (pi_range1 (by rfl) T.n_range (pa_cons (pe_op op_add (pv 5) (pe_int)) (pa_nil))) (blkOk_by (by kernel_rfl)) (fun _ _ _ _ _ => pg_name (i := 11) c_law_led.nd rfl (by first | exact Or.inl rfl | exact Or.inr rfl)) (fun _ _ _ _ _ => pts_nil) (fun _ _ _ _ _ => pe_op (r := rCatA K) op_catA (pv 7) (pe_tup (pa_cons (pv 11) (pa_nil)))))))))
  (pss_one (ps_set (i := 4) c_law_led.nd rfl (Or.inl rfl) (pv 6))))))
  (pss_cons (ps_for PassesOwn.never rfl (pi_listK K (pe_callB (cr_sortD encSh hr.units) (by rfl) T.n_sorted (by decide +kernel) (pa_cons (pv 4) (pa_nil)))) (pg_name (i := 7) c_law_led.nd rfl (Or.inr rfl))
    (pss_cons (ps_set (i := 8) c_law_led.nd rfl (Or.inl rfl) (pe_ifExp (pt_cmpR op_eq (pe_callB (cr_sumT rfl) (by rfl) T.n_sum (by decide +kernel) (pa_cons (pv 7) (pa_nil))) (pe_int) (nomark _)) (pe_lst (pa_cons (pv 1) (pa_nil))) (pe_lst (pa_nil))))
  (pss_cons (ps_for PassesOwn.never rfl (pi_range1 (by rfl) T.n_range (pa_cons (pe_callB (id := "len") (r := rLenOf K) call_len_seq (by rfl) T.n_len (by decide +kernel) (pa_cons (pv 0) (pa_nil))) (pa_nil))) (pg_name (i := 9) c_law_led.nd rfl (Or.inr rfl))
    (pss_one (ps_if (pt_cmpR op_gt (pe_ix (r := rIxT K) ix_tup (pv 7) (pv 9) (fun _ _ => rfl)) (pe_int) (nomark _)) (pss_cons (ps_set (i := 10) c_law_led.nd rfl (Or.inl rfl) (pe_op (r := rCatA K) op_catA (pe_op (r := rCatA K) op_catA (pe_slice sl_tup (pv 7) (po_none) (po_some (pv 9))) (pe_tup (pa_cons (pe_op op_sub (pe_ix (r := rIxT K) ix_tup (pv 7) (pv 9) (fun _ _ => rfl)) (pe_int)) (pa_nil)))) (pe_slice sl_tup (pv 7) (po_some (pe_op op_add (pv 9) (pe_int))) (po_none))))
  (pss_one (ps_set (i := 8) c_law_led.nd rfl (Or.inl rfl) (pe_op op_cat (pv 8) (pe_lc (own := [("_law_state", 12)]) (g := gName 12) (tt := tYes) rfl c_law_led.nd (pi_listK K (pe_dget (hu_of hr) (pv 3) (pv 10) (fun _ _ => rfl))) (blkOk_by (by kernel_rfl)) (fun _ _ _ _ _ => pg_name (i := 12) c_law_led.nd rfl (by first | exact Or.inl rfl | exact Or.inr rfl)) (fun _ _ _ _ _ => pts_nil) (fun _ _ _ _ _ => pe_ix (r := rIxT K) ix_tup (pe_ix (r := rIxT K) ix_tup (pv 0) (pv 9) (fun _ _ => rfl)) (pv 12) (fun _ _ => rfl)))))))
    (pss_nil))))
  (pss_one (ps_dput (hu_of hr) (pv 3) (pv 7) (pe_callB (cr_sortedSet rfl) (by rfl) T.n_sorted (by decide +kernel) (pa_cons (pe_callTy (cr_setL rfl) (by rfl) T.n_set (by decide +kernel) (pa_cons (pv 8) (pa_nil))) (pa_nil))) rfl)))))
  (pss_one (ps_ret (pe_callTy (T := "tuple") (r := rTupOf K) call_tuple_of (by rfl) T.n_tuple (by decide +kernel) (pa_cons (pe_dget (hu_of hr) (pv 3) (pe_callTy (T := "tuple") (r := rTupOf K) call_tuple_of (by rfl) T.n_tuple (by decide +kernel) (pa_cons (pv 2) (pa_nil))) (fun _ _ => rfl)) (pa_nil)))))))), ?_⟩
  have hz : sizeLine = 16777216 := sizeLine_eq
  have one := ok.one
  have four := ok.four
  obtain ⟨as, hta, hpa⟩ := id ha
  have hlen : as.length = ts.length := Paired.length hpa
  intro fo nfo
  have s1 : Same H (upd H fo (.dT [])) := Same.upd nfo
  have f1 : (upd H fo (.dT [])) fo = some (.dT []) := upd_same
  generalize upd H fo (.dT []) = H1 at s1 f1 ⊢
  refine ⟨by show 0 ≤ sizeLine; omega, fun e0 ne0 => ⟨by show 1 ≤ sizeLine; omega, fun r0 nr0 => ?_⟩⟩
  have s2 := (Same.upd ne0 (o := .tup [])).trans (Same.upd nr0 (o := .lst [.ref e0]))
  have e2 : TN (upd (upd H1 e0 (.tup [])) r0 (.lst [.ref e0])) e0 [] := (Same.upd nr0) _ _ upd_same
  have r2 : (upd (upd H1 e0 (.tup [])) r0 (.lst [.ref e0])) r0 = some (.lst [.ref e0]) := upd_same
  generalize upd (upd H1 e0 (.tup [])) r0 (.lst [.ref e0]) = H2 at s2 e2 r2 ⊢
  have s02 := s1.trans s2
  have f2 := s2 _ _ f1
  clear s1 s2 f1
  refine ⟨_, rfl, nl, rfl, ⟨_, LN.sq (hN.same s02)⟩, for_list (xs := nVs ns) (fun i σ H' => ∃ r xs v5 v6 v7 v8 v9 v10 v11 v12, σ = [some (.ref a), some (nV first), some (.ref nl), some (.ref fo), some (.ref r), v5, v6, v7, v8, v9, v10, v11, v12] ∧ Same H2 H' ∧ H' r = some (.lst xs) ∧ Paired (TNs H') xs (rowsT ns i)) ?_ ?_ ?_ ?_⟩
  · exact ⟨r0, _, _, _, _, _, _, _, _, _, rfl, Same.refl _, r2, .cons ⟨e0, rfl, e2⟩ .nil⟩
  · rintro i σ H3 _ ⟨_, _, _, _, _, _, _, _, _, _, _, s3, _⟩
    exact LN.sq ((hN.same s02).same s3)
  · rintro i x σ H3 hx ⟨r, xs, v5, v6, v7, v8, v9, v10, v11, v12, rfl, s3, r3, p3⟩
    obtain ⟨m, hm, rfl⟩ := nVs_back hx
    have hm3 := h3 m (List.mem_of_getElem? hm)
    have hi4 : i < 4 := by have := (List.getElem?_eq_some_iff.mp hm).1; omega
    have rl := rowsT_len h3 i
    have xl : xs.length = (rowsT ns i).length := Paired.length p3
    have p4 : 4 ^ i ≤ 64 := Nat.le_trans (Nat.pow_le_pow_right (by decide) (show i ≤ 3 by omega)) (by decide)
    refine ⟨by show 0 ≤ sizeLine; omega, fun L0 nL0 => ?_⟩
    have s4 := s3.trans (Same.upd nL0 (o := .lst []))
    have l4 : (upd H3 L0 (.lst [])) L0 = some (.lst []) := upd_same
    have r4 := (Same.upd nL0 (o := .lst [])) _ _ r3
    have q4 := Paired.mapP p3 fun _ _ z => z.same (Same.upd nL0 (o := .lst []))
    generalize upd H3 L0 (.lst []) = H4 at s4 l4 r4 q4 ⊢
    clear s3 r3 p3
    refine ⟨_, rfl, r, rfl, ⟨_, SqL.of r4⟩, for_list (xs := xs) (fun j σ H' => ∃ L ls v7 v11, σ = [some (.ref a), some (nV first), some (.ref nl), some (.ref fo), some (.ref r), some (nV m), some (.ref L), v7, v8, v9, v10, v11, v12] ∧ Same H4 H' ∧ H' L = some (.lst ls) ∧ Paired (TNs H') ls (((rowsT ns i).take j).flatMap (moreRow m))) ?_ ?_ ?_ ?_⟩
    · exact ⟨L0, [], _, _, rfl, Same.refl _, l4, .nil⟩
    · rintro j σ H5 _ ⟨_, _, _, _, _, s5, _⟩
      exact SqL.of (s5 _ _ r4)
    · rintro j x σ H5 hx5 ⟨L, ls, v7, v11, rfl, s5, l5, p5⟩
      obtain ⟨row, hrow, ra, rfl, hra⟩ := paired_at' q4 hx5
      have hra5 := hra.same s5
      have lsl : ls.length ≤ 256 := by
        rw [Paired.length p5]
        have := flat_len (moreRow m) 4 ((rowsT ns i).take j) fun x _ => by
          unfold moreRow
          rw [List.length_map, List.length_range]
          omega
        have : ((rowsT ns i).take j).length ≤ (rowsT ns i).length := by rw [List.length_take]; omega
        omega
      have rowl : row.length ≤ 4 := by
        have := (mem_rowsT.mp (List.mem_of_getElem? hrow)).1
        omega
      refine ⟨_, rfl, _, rfl, _, _, rfl, rfl, _, rfl, by omega, by omega, fun D hD => lcE_range (E := E0') (J := fun _ => True) (R := fun k y H' => TNs H' y (row ++ [k])) hD (fun z => z) (by omega) trivial (fun _ _ _ => trivial) ?_ ?_ ?_⟩
      · rintro k v H6 H7 _ ⟨ys, hys⟩ ⟨b, e1, e2⟩ w67
        have e2' : H6 b = some (.tup (nVs (row ++ [k]))) := e2
        exact ⟨b, e1, w67 _ _ (fun z => by
          rcases z with z | z
          · exact z
          · rw [z, hys] at e2'; cases e2') e2⟩
      · intro k H6 kk hk s6 _ _ fin
        refine ⟨rfl, _, rfl, _, rfl, by show 1 ≤ sizeLine; omega, fun t nt => ?_⟩
        have s7 : Same H6 (upd H6 t (.tup [nV k])) := Same.upd nt
        have t7 : TN (upd H6 t (.tup [nV k])) t [k] := upd_same
        refine cat_one ((hra5.same s6.same).same s7) t7 (fun z => by cases z) (by rw [nVs_len]; simp; omega) fun p H8 s8 e8 => ?_
        exact fin _ _ (.of (s7.trans s8)) trivial ⟨p, rfl, by show _ = _; rw [e8]; simp [nVs]⟩
      · intro H6 ys s6 _ hy ly ry
        have l6 := s6.same _ _ l5
        have em : (((m : Nat) : Int) + 1).toNat = m + 1 := by omega
        have ly' : ys.length = m + 1 := ly.trans em
        refine ⟨L, D, _, _, rfl, rfl, l6, hy, by omega, fun L2 nL2 => ?_⟩
        have s8 : Same H6 (upd H6 L2 (.lst (ls ++ ys))) := Same.upd nL2
        refine ⟨L2, ls ++ ys, _, _, rfl, (s5.trans s6.same).trans s8, upd_same, ?_⟩
        rw [flat_take _ hrow]
        refine paired_app (Paired.mapP p5 fun _ _ z => z.same (s6.same.trans s8)) ?_
        unfold moreRow
        refine paired_of_get (by rw [List.length_map, List.length_range]; exact ly') fun j y b hy hb => ?_
        rw [List.getElem?_map] at hb
        have hj : j < m + 1 := by
          have := (List.getElem?_eq_some_iff.mp hy).1
          omega
        rw [List.getElem?_range hj] at hb
        cases hb
        exact (ry j y hy).same s8
    · rintro σ H5 ⟨L, ls, v7, v11, rfl, s5, l5, p5⟩
      rw [xl, List.take_length] at p5
      refine ⟨_, rfl, L, ls, _, _, _, _, _, _, _, _, rfl, s4.trans s5, l5, ?_⟩
      have e : ns.getD i 0 = m := getD_of hm
      show Paired (TNs H5) ls ((rowsT ns i).flatMap (moreRow (ns.getD i 0)))
      rw [e]
      exact p5
  · rintro σ H3 ⟨r, xs, v5, v6, v7, v8, v9, v10, v11, v12, rfl, s3, r3, p3⟩
    rw [nVs_len, hl] at p3
    have s03 := s02.trans s3
    have f3 := s3 _ _ f2
    have rl := rowsT_len h3 ts.length
    have rl2 : (rowsT ns ts.length).length ≤ 256 := Nat.le_trans rl (Nat.le_trans (Nat.pow_le_pow_right (by decide) four) (by decide))
    clear s02 s3 f2 r2 e2 ne0 nr0
    refine ⟨_, rfl, r, xs, rowsT ns ts.length, TNs H3, rfl, SqL.of r3, p3, fun x row hx => ?_, ⟨PySem.W.AllAlike.of fun a b => alike_sh a b, sortable_shs fun b hb z => by have := (mem_rowsT.mp hb).1; rw [z] at this; simp at this; omega, fun b _ => by rw [depth_sh]; decide, by omega⟩, fun p ys np pys => ?_⟩
    · obtain ⟨b, rfl, hb⟩ := hx
      exact dp_tn hb
    have pm := List.mergeSort_perm (rowsT ns ts.length) (PySem.W.dataLe false encSh)
    have pw : ((rowsT ns ts.length).mergeSort (PySem.W.dataLe false encSh)).Pairwise fun a b => ¬ sltL b a := (pw_le encSh (rowsT ns ts.length)).imp fun {a b} e => by
      have e' : (!PySem.W.dataLt (encSh b) (encSh a)) = true := e
      rw [lt_sh] at e'
      intro z
      rw [decide_eq_true (show intsOf b < intsOf a from z)] at e'
      cases e'
    generalize (rowsT ns ts.length).mergeSort (PySem.W.dataLe false encSh) = S at pm pw pys
    have mS : ∀ row, row ∈ S ↔ row.length = ts.length ∧ ∀ k, k < ts.length → row.getD k 0 ≤ ns.getD k 0 := fun row => pm.mem_iff.trans mem_rowsT
    have Sl : S.length ≤ 256 := by rw [pm.length_eq]; exact rl2
    have s4 : Same H3 (upd H3 p (.lst ys)) := Same.upd np
    have ysl : ys.length = S.length := Paired.length pys
    refine ⟨p, rfl, ⟨_, SqL.of upd_same⟩, for_list (xs := ys) (fun j σ H' => ∃ v5 v6 v7 v8 v9 v10 v11 v12, σ = [some (.ref a), some (nV first), some (.ref nl), some (.ref fo), some (.ref r), v5, v6, v7, v8, v9, v10, v11, v12] ∧ Same H H' ∧ H' p = some (.lst ys) ∧ Paired (TNs H') ys S ∧ LedAt H' fo ts first (S.take j) j) ?_ ?_ ?_ ?_⟩
    · exact ⟨_, _, _, _, _, _, _, _, rfl, s03.trans s4, upd_same, Paired.mapP pys fun _ _ z => z.same s4, [], s4 _ _ f3, Nat.le_refl _, fun row hrow => by simp at hrow⟩
    · rintro j σ H5 _ ⟨_, _, _, _, _, _, _, _, _, _, e5, _⟩
      exact SqL.of e5
    · rintro j x σ H5 hx ⟨v5, v6, v7, v8, v9, v10, v11, v12, rfl, s5, e5, p5, led⟩
      clear s4 pys np f3 s03
      obtain ⟨row, hrow, ra, rfl, hra⟩ := paired_at' p5 hx
      have hmS := List.mem_of_getElem? hrow
      obtain ⟨rowl, rown⟩ := (mS row).mp hmS
      have jl : j < S.length := (List.getElem?_eq_some_iff.mp hrow).1
      obtain ⟨kvs, hkv, kvl, kvr⟩ := led
      refine seq_by (fun σ' H' => ∃ L st, σ' = [some (.ref a), some (nV first), some (.ref nl), some (.ref fo), some (.ref r), v5, v6, some (.ref ra), some (.ref L), v9, v10, v11, v12] ∧ Same H5 H' ∧ LN H' L st ∧ st.length ≤ 1 ∧ ∀ s, s ∈ st ↔ row = List.replicate ts.length 0 ∧ s = first) ?_ fun rest => ?_
      · rintro σ6 H6 ⟨L0, st0, rfl, s6, l6, k6, m6⟩
        refine seq_by (fun σ' H' => ∃ L st v9 v10 v12, σ' = [some (.ref a), some (nV first), some (.ref nl), some (.ref fo), some (.ref r), v5, v6, some (.ref ra), some (.ref L), v9, v10, v11, v12] ∧ Same H5 H' ∧ LN H' L st ∧ st.length ≤ 33 ∧ ∀ s, s ∈ st ↔ Cnt ts [] first row s) ?_ fun rest => ?_
        · rintro σ7 H7 ⟨L, st, v9, v10, v12, rfl, s7, l7, k7, m7⟩
          have hst : ∀ s ∈ st, s < n := fun s hs => Reach.lt ok hf ((m7 s).mp hs)
          refine ⟨_, rfl, L, intsOf st, rfl, SqL.of (by have e : H7 L = some (.lst (nVs st)) := l7; rw [e, nVs_int]; rfl), by unfold intsOf; rw [List.length_map]; omega, fun sa Sf cnt nsa hS hcnt => ?_⟩
          have cl : cnt ≤ st.length := by simpa [intsOf] using hcnt
          have s8 := Same.upd nsa (o := SetO w sa Sf cnt)
          refine ⟨sa, Sf, cnt, rfl, upd_same, by omega, fun nsr p2 pwr mem _ np2 => ?_⟩
          obtain ⟨l, el, pl, ml⟩ := ints_nats pwr fun k => (mem k).trans (hS k)
          have s9 := s8.trans (Same.upd np2 (o := .lst (nsr.map V.int)))
          have l9 : LN (upd (upd H7 sa (SetO w sa Sf cnt)) p2 (.lst (nsr.map V.int))) p2 l := by
            show _ = _
            rw [upd_same, el]
          have s59 := s7.trans s9
          have at9 := s59 _ _ hkv
          have hr9 := hra.same s59
          have dp := DPut.t (k := skey row) (v := .ref p2) at9 (by rw [skey_kV]; exact hr9) (by omega)
          refine ⟨_, rfl, _, rfl, fo, _, rfl, dp, ?_⟩
          have oo : ∀ b o, (upd (upd H7 sa (SetO w sa Sf cnt)) p2 (.lst (nsr.map V.int))) b = some o → (∀ kv, o ≠ .dT kv) → (upd (upd (upd H7 sa (SetO w sa Sf cnt)) p2 (.lst (nsr.map V.int))) fo (.dT (putK kvs (skey row) (.ref p2)))) b = some o := fun b o e no => by
            rw [upd_ne (ne_of e at9 (no _))]
            exact e
          have pl1 := length_putK kvs (skey row) (.ref p2)
          refine ⟨_, _, _, _, _, _, _, _, rfl, Same.updR (s5.trans s59) nfo, oo _ _ (s59 _ _ e5) (fun _ z => nomatch z), Paired.mapP p5 (fun x row ⟨b, e1, e2⟩ => ⟨b, e1, oo _ _ (e2.same s59) (fun _ z => nomatch z)⟩), putK kvs (skey row) (.ref p2), upd_same, by omega, fun row' hrow' => ?_⟩
          by_cases e : row' = row
          · subst e
            exact ⟨p2, l, by rw [valV_put, if_pos rfl], oo _ _ l9 (fun _ z => nomatch z), pl, few_states pl ok.n8 (fun s hs => hst s ((ml s).mp hs)), fun s => (ml s).trans (m7 s)⟩
          · have hin : row' ∈ S.take j := by
              rw [List.take_add_one, hrow] at hrow'
              rcases List.mem_append.mp hrow' with z | z
              · exact z
              · exact absurd (by simpa using z) e
            obtain ⟨a', l', e1, e2, e3, e4, e6⟩ := kvr row' hin
            exact ⟨a', l', by rw [valV_put, if_neg (fun z => e (skey_inj z))]; exact e1, oo _ _ (e2.same s59) (fun _ z => nomatch z), e3, e4, e6⟩
        · have hal : (as.map V.ref).length = ts.length := by rw [List.length_map, hlen]
          have m5 : Same H H6 := s5.trans s6
          refine ⟨_, rfl, a, _, rfl, .inr (SqT.of (m5 _ _ hta)), _, rfl, by omega, by omega, for_rangeN (fun d σ H' => ∃ L st v9 v10 v12, σ = [some (.ref a), some (nV first), some (.ref nl), some (.ref fo), some (.ref r), v5, v6, some (.ref ra), some (.ref L), v9, v10, v11, v12] ∧ Same H5 H' ∧ LN H' L st ∧ st.length ≤ 1 + 8 * d ∧ ∀ s, s ∈ st ↔ (row = List.replicate ts.length 0 ∧ s = first) ∨ ∃ d', d' < d ∧ 0 < row.getD d' 0 ∧ ∃ s', Cnt ts [] first (row.set d' (row.getD d' 0 - 1)) s' ∧ s = (ts.getD d' []).getD s' 0) ?_ ?_ ?_⟩
          · exact ⟨L0, st0, _, _, _, rfl, s6, l6, by omega, fun s => (m6 s).trans ⟨.inl, fun z => z.elim id fun ⟨_, h, _⟩ => absurd h (Nat.not_lt_zero _)⟩⟩
          · rintro d σ H7 hd ⟨L, st, v9, v10, v12, rfl, s7, l7, k7, m7⟩
            have hd' : d < ts.length := by omega
            obtain ⟨m, hm⟩ := get_lt (show d < row.length by omega)
            have gm : row.getD d 0 = m := getD_of hm
            have hra7 := hra.same s7
            refine ⟨_, rfl, _, rfl, _, _, _, _, rfl, rfl, TN.sq hra7, atI_nat (nVs_get hm), _, _, rfl, rfl, _, rfl, ite2 (fun h0 => ?_) fun h0 => ?_⟩
            · have hpos : 0 < m := by
                have := of_decide_eq_true h0
                omega
              refine splice (sh := row) (d := d) (m := m - 1) hra7 (by omega) (by omega) (fun H' Q _ q => ⟨_, rfl, q⟩) (fun H' Q _ q => ⟨_, rfl, q⟩) (fun H' Q s' q => ⟨_, rfl, _, rfl, _, _, _, _, rfl, rfl, TN.sq (hra7.same s'), atI_nat (nVs_get hm), rI0n (c := m - 1) (congrArg V.int (by omega)) (q _ (Same.refl _))⟩) fun H8 lb s8 e8 => ?_
              have lessS : row.set d (m - 1) ∈ S.take j := by
                refine sorted_before pw hrow ((mS _).mpr ⟨by simp [rowl], fun k hk => ?_⟩) ?_
                · rw [getD_set _ _ _ _ (by omega)]
                  have := rown k hk
                  by_cases e : k = d
                  · subst e
                    rw [if_pos rfl]
                    omega
                  · rw [if_neg e]
                    exact this
                · have := less_lt row d (by omega) (by omega)
                  rw [gm] at this
                  exact this
              obtain ⟨la, l, e1, e2, e3, e4, e6⟩ := kvr _ lessS
              have s58 := s7.trans s8
              have dg : DGet H8 fo (.ref lb) (valV kvs (skey (row.set d (m - 1)))) := DGet.t (s58 _ _ hkv) (by rw [skey_kV]; exact e8)
              rw [e1] at dg
              obtain ⟨trow, htr⟩ := get_lt hd'
              obtain ⟨ta, hta', htr'⟩ := paired_at hpa htr
              refine ⟨_, rfl, _, rfl, _, rfl, fo, _, rfl, dg, la, rfl, ⟨_, LN.sq (e2.same s58)⟩, fun D hD => lcE_list (E := E0') (J := fun _ => True) (R := fun i y _ => ∃ s', l[i]? = some s' ∧ y = nV ((ts.getD d []).getD s' 0)) hD (fun z => z) (by rw [nVs_len]; omega) trivial (fun _ _ _ => trivial) (fun H' s' _ => LN.sq (e2.same (s58.trans s'.same))) (fun _ _ _ _ _ _ e _ => e) ?_ ?_⟩
              · intro i x H9 k hx9 s9 _ _ fin
                obtain ⟨s', hs', rfl⟩ := nVs_back hx9
                have hlt : s' < n := Reach.lt ok hf ((e6 s').mp (List.mem_of_getElem? hs'))
                obtain ⟨y, hy⟩ := get_lt (show s' < trow.length by rw [ok.len trow (List.mem_of_getElem? htr)]; exact hlt)
                have m9 := s5.trans (s58.trans s9.same)
                refine ⟨rfl, _, rfl, _, rfl, _, _, _, _, rfl, rfl, SqT.of (m9 _ _ hta), atI_nat (refs_at hta'), _, rfl, _, _, _, _, rfl, rfl, TN.sq (htr'.same m9), atI_nat (nVs_get hy), ?_⟩
                exact fin _ _ .refl trivial ⟨s', hs', by rw [getD_of htr, getD_of hy]⟩
              · intro H9 ys9 s9 _ hy ly ry
                rw [nVs_len] at ly
                have ey := vs_eq (g := fun s' => (ts.getD d []).getD s' 0) ly ry
                subst ey
                refine ⟨L, D, _, _, rfl, rfl, l7.same (s8.trans s9.same), hy, by rw [nVs_len, nVs_len, List.length_map]; omega, fun L2 nL2 => ?_⟩
                refine ⟨L2, st ++ l.map fun s' => (ts.getD d []).getD s' 0, _, _, _, rfl, (s58.trans s9.same).trans (Same.upd nL2), by show _ = _; rw [upd_same]; simp [nVs], by rw [List.length_append, List.length_map]; omega, fun s => ?_⟩
                rw [List.mem_append, m7, List.mem_map]
                constructor
                · rintro ((z | ⟨d', h1, h2⟩) | ⟨s', hs', rfl⟩)
                  · exact .inl z
                  · exact .inr ⟨d', by omega, h2⟩
                  · exact .inr ⟨d, by omega, by omega, s', by rw [gm]; exact (e6 s').mp hs', rfl⟩
                · rintro (z | ⟨d', h1, h2, s', h4, rfl⟩)
                  · exact .inl (.inl z)
                  · by_cases e : d' = d
                    · subst e
                      rw [gm] at h4
                      exact .inr ⟨s', (e6 s').mpr h4, rfl⟩
                    · exact .inl (.inr ⟨d', by omega, h2, s', h4, rfl⟩)
            · have hm0 : m = 0 := by
                have := of_decide_eq_false (Bool.not_eq_true _ ▸ h0)
                omega
              refine ⟨L, st, _, _, _, rfl, s7, l7, by omega, fun s => (m7 s).trans ⟨?_, ?_⟩⟩
              · rintro (z | ⟨d', h1, h2⟩)
                · exact .inl z
                · exact .inr ⟨d', by omega, h2⟩
              · rintro (z | ⟨d', h1, h2, h4⟩)
                · exact .inl z
                · by_cases e : d' = d
                  · subst e
                    omega
                  · exact .inr ⟨d', by omega, h2, h4⟩
          · rintro σ H7 ⟨L, st, v9, v10, v12, rfl, s7, l7, k7, m7⟩
            have en : ((((as.map V.ref).length : Nat) : Int)).toNat = ts.length := by rw [Int.toNat_natCast]; exact hal
            rw [en] at k7 m7
            exact rest _ _ ⟨L, st, _, _, _, rfl, s7, l7, by omega, fun s => (m7 s).trans (cnt_rec rowl).symm⟩
      · refine ⟨_, rfl, ra, intsOf row, rfl, SqT.of (by have e : H5 ra = some (.tup (nVs row)) := hra; rw [e, nVs_int]; rfl), rfl, _, rfl, ?_⟩
        by_cases h0 : row = List.replicate ts.length 0
        · have e0 : (intsOf row).sum = 0 := sum_zero.mpr (by rw [rowl]; exact h0)
          refine iteTb (by simp [e0]) ⟨_, rfl, by show 1 ≤ sizeLine; omega, fun L nL => ?_⟩
          exact rest _ _ ⟨L, [first], rfl, Same.upd nL, upd_same, by simp, fun s => by simp [h0]⟩
        · have e0 : ¬ (intsOf row).sum = 0 := fun z => h0 (by have := sum_zero.mp z; rw [rowl] at this; exact this)
          refine iteFb (decide_eq_false fun z => e0 (by injection z)) ⟨by show 0 ≤ sizeLine; omega, fun L nL => ?_⟩
          exact rest _ _ ⟨L, [], rfl, Same.upd nL, upd_same, by simp, fun s => by simp [h0]⟩
    · rintro σ H5 ⟨v5, v6, v7, v8, v9, v10, v11, v12, rfl, s5, e5, p5, led⟩
      rw [ysl, List.take_length] at led
      obtain ⟨kvs, hkv, kvl, kvr⟩ := led
      obtain ⟨b, l, e1, e2, e3, e4, e6⟩ := kvr ns ((mS ns).mpr ⟨hl, fun _ _ => Nat.le_refl _⟩)
      refine ⟨_, rfl, _, rfl, nl, _, rfl, .inl ⟨LN.sq (hN.same s5), fun t nt => ?_⟩⟩
      have s6 : Same H5 (upd H5 t (.tup (nVs ns))) := Same.upd nt
      have dg : DGet (upd H5 t (.tup (nVs ns))) fo (.ref t) (valV kvs (skey ns)) := DGet.t (s6 _ _ hkv) (by rw [upd_same, skey_kV])
      rw [e1] at dg
      refine ⟨fo, _, rfl, dg, b, _, rfl, .inl ⟨LN.sq (e2.same s6), fun p2 np2 => ?_⟩⟩
      exact q _ p2 l ((s5.trans s6).trans (Same.upd np2)) upd_same e3 e6
end
end Ow

/-! ## W21 -/
set_option Elab.async false
set_option linter.all false
set_option maxRecDepth 100000
set_option maxHeartbeats 16000000
/-! _law_heard -/
namespace Ow
open PySem PySem.Spec PyProof.Rows L2 LamX
abbrev s_law_heard : Stmt := topS 55
theorem c_law_heard : FnScope ["_law_ask", "fault"] ["_law_ask"] (defScope s_law_heard) := ⟨rfl, rfl, rfl, by decide +kernel, rfl, by decide +kernel, by decide +kernel⟩

theorem takes_len {X : Cx} {W : WX} (tk : Takes X W) : Takes X fun cls d σ H => σ.length = X.N.length → W cls d σ H := by
  intro u s' xx
  obtain ⟨a, B, sI, pins', σ', H', cls, d, e, J, nb, up, sky, na, os, ag, w⟩ := xx
  exact tk u s' ⟨a, B, sI, pins', σ', H', cls, d, e, J, nb, up, sky, na, os, ag, w J.len⟩
/-- the classes of errors, and what is asked of them -/
structure Hk (K : PySem.W.Frag) (mg : Str → Option Value) (cF cB cG cR cN cW cC cM : Addr) : Prop where
  mF : mg "Forgets" = some (.ref cF)
  mB : mg "BadShowing" = some (.ref cB)
  mG : mg "TooGreat" = some (.ref cG)
  mR : mg "Refused" = some (.ref cR)
  mN : mg "NoState" = some (.ref cN)
  mW : mg "WitnessError" = some (.ref cW)
  mC : mg "Counters" = some (.ref cC)
  mM : mg "Machine" = some (.ref cM)
  gF : PySem.W.exmOne K (.ref cG) (.ref cF) = some false
  gB : PySem.W.exmOne K (.ref cG) (.ref cB) = some false
  gG : PySem.W.exmOne K (.ref cG) (.ref cG) = some true
  rF : PySem.W.exmOne K (.ref cR) (.ref cF) = some false
  rB : PySem.W.exmOne K (.ref cR) (.ref cB) = some false
  rG : PySem.W.exmOne K (.ref cR) (.ref cG) = some false
  rR : PySem.W.exmOne K (.ref cR) (.ref cR) = some true
  xG : XfC K cG
  xR : XfC K cR
  fG : PySem.W.findIn K (.ref cG) "most" = some none
  fR : PySem.W.findIn K (.ref cR) "at" = some none
  eG : ExcC K cG
  eR : ExcC K cR
  wG : PySem.W.kitOne K (.ref cG) (.ref cW) = some true
  wR : PySem.W.kitOne K (.ref cR) (.ref cW) = some true
  cls : Cls K cC
  ha : PySem.W.findIn K (.ref cC) "__class__" = some (some (.builtin "object.__class__"))
  hn : PySem.W.specialIn K (.builtin "object.__class__") "__get__" = some (some (.builtin "getset_descriptor.__get__"))
  ht : PySem.W.takesIn K (.builtin "object.__class__") = some true
  hm : PySem.W.mroIn K cC (.type "object") = some true
  any : PySem.W.kitAny K (.ref cC) [.ref cC, .ref cM] = some true
/-- what is asked of an error that is heard -/
def EHr (cG cR cC : Addr) (Q : VK) : XK := fun cls d H' =>
  (cls = .ref cG ∧ ∃ dd v, d = some dd ∧ H' dd = some (.xd [("most", v)]) ∧ ∀ p, H' p = none → Q (.ref p) (upd H' p (.tup [.str "great", v, .bl true]))) ∨
  (cls = .ref cR ∧ ∃ dd c dx fs, d = some dd ∧ H' dd = some (.xd [("at", .ref c)]) ∧ H' c = some (.ins cC dx fs) ∧ ∀ H2 p, Same H' H2 → H2 p = some (.tup [.str "refused", .ref c, .bl true]) → Q (.ref p) H2)
def THeard (cG cR cC : Addr) : (XK → Hp → VK → Prop) → Hp → VK → Prop := fun tl H Q => tl (EHr cG cR cC Q) H fun v H1 => 2 ≤ sizeLine ∧ ∀ p, H1 p = none → Q (.ref p) (upd H1 p (.tup [.str "told", v]))
section
variable {X : Cx} {cF cB cG cR cN cW cC cM : Addr}
theorem heard_gives {g : Addr} {cdg : Value} {q : Str} (T : Tx X.mg) (h : Hk X.K X.mg cF cB cG cR cN cW cC cM) : GivesTo X ["_law_ask", "fault"] "_law_heard" (defScope s_law_heard) g cdg (defBody s_law_heard) "_law_ask" q (THeard cG cR cC) := by
  intro f c' s H Q tl act hc hq
  have ps : ∀ {Y : Cx} {st : Stmt}, PSs Y [st] (fun _ _ _ => False) := pss_one ⟨fun _ _ _ _ _ _ z => z.elim⟩
  refine ⟨_, pss_one (ps_try_manyAs (i := 1) (X := (cxOf C8.CX0 X.prog X.w X.K X.mg X.base ["_law_ask", "fault"] "_law_heard" (defScope s_law_heard) g cdg X.A X.stack s H C8.E0).nox)
      (tb := fun W D σ H => ∃ Ech : XK, (∀ cls d σ' H', σ'.length = 2 → Ech cls d H' → W cls d σ' H') ∧ σ[0]? = some (some (.ref f)) ∧ H c' = some (CodeO c' q) ∧ tl Ech H (fun v H1 => 2 ≤ sizeLine ∧ ∀ p, H1 p = none → D.rt (.ref p) (upd H1 p (.tup [.str "told", v]))))
      rfl rfl c_law_heard.nd rfl rfl L2.takes0 (fun W pn xe tk _ => ?_)
      (.cons (c := .ref cF) (ts := fun _ _ _ => fun _ _ _ => False) ⟨rfl, by decide, .inl h.mF⟩ (fun _ _ _ _ _ _ _ => ps)
        (.cons (c := .ref cB) (ts := fun _ _ _ => fun _ _ _ => False) ⟨rfl, by decide, .inl h.mB⟩ (fun _ _ _ _ _ _ _ => ps)
          (.cons (c := .ref cG) ⟨rfl, by decide, .inl h.mG⟩ (fun a oe cls d pn hz hf => pss_one (ps_ret (pe_tup (pa_cons pe_str (pa_cons (pe_xf h.xG h.fG hz hf (pv 1)) (pa_cons (pe_callB (id := "isinstance") (r := rIsD X.K a cls d) (call_isD hz hf) (by rfl) T.n_isinstance (by decide +kernel) (pa_cons (pv 1) (pa_cons (pe_glob rfl h.mW (show L2.RelV (.ref cW) (.ref cW) from rfl)) pa_nil))) pa_nil))))))
            (.cons (c := .ref cR) ⟨rfl, by decide, .inl h.mR⟩ (fun a oe cls d pn hz hf => pss_one (ps_ret (pe_tup (pa_cons pe_str (pa_cons (pe_ifExp (pt_val (pe_callB (id := "isinstance") (r := rIsiT X.K) call_isiT (by rfl) T.n_isinstance (by decide +kernel) (pa_cons (pe_xf h.xR h.fR hz hf (pv 1)) (pa_cons (pe_tup (pa_cons (pe_glob rfl h.mC (show L2.RelV (.ref cC) (.ref cC) from rfl)) (pa_cons (pe_glob rfl h.mM (show L2.RelV (.ref cM) (.ref cM) from rfl)) pa_nil))) pa_nil)))) (pe_xf h.xR h.fR hz hf (pv 1)) pe_never)
                (pa_cons (pe_callB (id := "isinstance") (r := rIsD X.K a cls d) (call_isD hz hf) (by rfl) T.n_isinstance (by decide +kernel) (pa_cons (pv 1) (pa_cons (pe_glob rfl h.mW (show L2.RelV (.ref cW) (.ref cW) from rfl)) pa_nil))) pa_nil))))))
              (.cons (c := .ref cN) (ts := fun _ _ _ => fun _ _ _ => False) ⟨rfl, by decide, .inl h.mN⟩ (fun _ _ _ _ _ _ _ => ps) .nil)))))), ?_⟩
  · refine ⟨fun pins s' σ H' D I h' => ?_⟩
    obtain ⟨Ech, hW, h1, h2, h3⟩ := h'
    exact (pss_one (ps_ret (pe_tup (pa_cons pe_str (pa_cons (act _ pn xe Ech _ _ (takes_len tk) fun cls d σ' H' hE hl => hW cls d σ' H' hl hE) pa_nil))))).run pins s' σ H' D I ⟨h1, h2, h3⟩
  · refine ⟨EHr cG cR cC Q, fun cls d σ' H' hl hE => ?_, rfl, hc, hq⟩
    obtain ⟨x, y, rfl⟩ : ∃ x y, σ' = [x, y] := by
      match σ', hl with
      | [x, y], _ => exact ⟨x, y, rfl⟩
    rcases hE with ⟨rfl, dd, v, rfl, hdd, hp⟩ | ⟨rfl, dd, c, dx, fs, rfl, hdd, hc', hp⟩
    · refine ⟨false, h.gF, (fun z => by cases z), fun _ => ⟨false, h.gB, (fun z => by cases z), fun _ => ⟨true, h.gG, fun _ a na => ?_, fun z => by cases z⟩⟩⟩
      refine ⟨_, rfl, rfl, rfl, dd, _, v, rfl, hdd, rfl, ?_⟩
      refine ⟨_, rfl, cG, dd, _, .ref cW, .ref cW, true, rfl, h.eG, rfl, hdd, rfl, fun u r => r, h.wG, by show 3 ≤ sizeLine; decide, fun p np => hp p np⟩
    · refine ⟨false, h.rF, (fun z => by cases z), fun _ => ⟨false, h.rB, (fun z => by cases z), fun _ => ⟨false, h.rG, (fun z => by cases z), fun _ => ⟨true, h.rR, fun _ a na => ?_, fun z => by cases z⟩⟩⟩⟩
      refine ⟨_, rfl, rfl, rfl, dd, _, .ref c, rfl, hdd, rfl, ?_⟩
      refine ⟨by show 2 ≤ sizeLine; decide, fun t nt => ?_⟩
      have s1 : Same H' (upd H' t (.tup [.ref cC, .ref cM])) := Same.upd nt
      refine ⟨.ref c, t, _, .ref cC, [.ref cC, .ref cM], true, rfl, upd_same, .cons (.own cC) (.cons (.own cM) .nil), .base (.ins (s1 _ _ hc') h.cls h.ha h.hn h.ht h.hm), h.any, _, rfl, ?_⟩
      refine ⟨_, rfl, rfl, rfl, dd, _, .ref c, rfl, s1 _ _ hdd, rfl, ?_⟩
      refine ⟨_, rfl, cR, dd, _, .ref cW, .ref cW, true, rfl, h.eR, rfl, s1 _ _ hdd, rfl, fun u r => r, h.wR, by show 3 ≤ sizeLine; decide, fun p np => hp _ p (s1.trans (Same.upd np)) upd_same⟩
end
end Ow

/-! ## M6 -/
set_option Elab.async false
set_option linter.all false
set_option maxRecDepth 100000
/-! The texts of lots and of lists of states are short -/
namespace Ow
open PySem
theorem num_short : ∀ n : Nat, n < 32 → (PyData.int (n : Nat)).showable = true ∧ (PyData.int (n : Nat)).leavesShort 13 = true ∧ (PyData.int (n : Nat)).weight ≤ 5 := by decide +kernel
theorem nums_short : ∀ l : List Nat, (∀ n ∈ l, n < 32) → PyData.showableAll ((intsOf l).map .int) = true ∧ PyData.leavesShortAll 13 ((intsOf l).map .int) = true ∧ PyData.weightAll ((intsOf l).map .int) ≤ 6 * l.length ∧ PyData.hasDictAll ((intsOf l).map .int) = false
  | [], _ => ⟨rfl, rfl, Nat.le_refl _, rfl⟩
  | n :: l, h => by
    obtain ⟨a, b, c⟩ := num_short n (h n List.mem_cons_self)
    obtain ⟨a', b', c', d'⟩ := nums_short l fun m hm => h m (List.mem_cons_of_mem _ hm)
    unfold intsOf at a' b' c' d' ⊢
    rw [List.map_cons, List.map_cons]
    refine ⟨?_, ?_, ?_, ?_⟩
    · simp only [PyData.showableAll, a, a', Bool.and_self]
    · simp only [PyData.leavesShortAll, b, b', Bool.and_self]
    · simp only [PyData.weightAll, List.length_cons]
      omega
    · simp only [PyData.hasDictAll, PyData.hasDict, d', Bool.or_self]
theorem sh_short (l : List Nat) (h : ∀ n ∈ l, n < 32) : (encSh l).showable = true ∧ (encSh l).leavesShort 13 = true ∧ (encSh l).weight ≤ 6 * l.length ∧ (encSh l).hasDict = false := by
  obtain ⟨a, b, c, d⟩ := nums_short l h
  unfold encSh
  refine ⟨?_, ?_, ?_, ?_⟩
  · simpa only [PyData.showable] using a
  · simpa only [PyData.leavesShort] using b
  · simpa only [PyData.weight] using c
  · simpa only [PyData.hasDict] using d
theorem row_short (q : List Nat × List Nat) (h1 : ∀ n ∈ q.1, n < 32) (h2 : ∀ n ∈ q.2, n < 32) : (encRow q).showable = true ∧ (encRow q).leavesShort 13 = true ∧ (encRow q).weight ≤ 6 * q.1.length + 6 * q.2.length + 2 ∧ (encRow q).hasDict = false := by
  obtain ⟨a, b, c, d⟩ := sh_short q.1 h1
  obtain ⟨a', b', c', d'⟩ := sh_short q.2 h2
  unfold encRow
  refine ⟨?_, ?_, ?_, ?_⟩
  · simp only [PyData.showable, PyData.showableAll, a, a', Bool.and_self]
  · simp only [PyData.leavesShort, PyData.leavesShortAll, b, b', Bool.and_self]
  · simp only [PyData.weight, PyData.weightAll]
    omega
  · simp only [PyData.hasDict, PyData.hasDictAll, d, d', Bool.or_self]
theorem rows_short : ∀ L : List (List Nat × List Nat), (∀ q ∈ L, q.1.length ≤ 4 ∧ q.2.length ≤ 8 ∧ (∀ n ∈ q.1, n < 32) ∧ ∀ n ∈ q.2, n < 32) → PyData.showableAll (L.map encRow) = true ∧ PyData.leavesShortAll 13 (L.map encRow) = true ∧ PyData.weightAll (L.map encRow) ≤ 80 * L.length ∧ PyData.hasDictAll (L.map encRow) = false
  | [], _ => ⟨rfl, rfl, Nat.le_refl _, rfl⟩
  | q :: L, h => by
    obtain ⟨l1, l2, l3, l4⟩ := h q List.mem_cons_self
    obtain ⟨a, b, c, d⟩ := row_short q l3 l4
    obtain ⟨a', b', c', d'⟩ := rows_short L fun m hm => h m (List.mem_cons_of_mem _ hm)
    rw [List.map_cons]
    refine ⟨?_, ?_, ?_, ?_⟩
    · simp only [PyData.showableAll, a, a', Bool.and_self]
    · simp only [PyData.leavesShortAll, b, b', Bool.and_self]
    · simp only [PyData.weightAll, List.length_cons]
      omega
    · simp only [PyData.hasDictAll, d, d', Bool.or_self]
/-- what repr asks -/
def ReprOk (d : PyData) : Prop := d.showable = true ∧ d.hasDict = false ∧ d.depth ≤ 20 ∧ d.shown.length ≤ sizeLine
theorem repr_sh (l : List Nat) (h : ∀ n ∈ l, n < 32) (hl : l.length ≤ 10000) : ReprOk (encSh l) := by
  obtain ⟨a, b, c, d⟩ := sh_short l h
  have hz : sizeLine = 16777216 := sizeLine_eq
  have := PyData.shown_le 13 (by decide) _ b
  exact ⟨a, d, by rw [depth_sh]; decide, by omega⟩
theorem depth_rows : ∀ L : List (List Nat × List Nat), PyData.depthAll (L.map encRow) ≤ 2
  | [] => by simp [PyData.depthAll]
  | q :: L => by
    have := depth_rows L
    rw [List.map_cons]
    simp only [PyData.depthAll, depth_row]
    omega
theorem repr_lots (L : List (List Nat × List Nat)) (h : ∀ q ∈ L, q.1.length ≤ 4 ∧ q.2.length ≤ 8 ∧ (∀ n ∈ q.1, n < 32) ∧ ∀ n ∈ q.2, n < 32) (hl : L.length ≤ 7000) : ReprOk (lotsD L) := by
  obtain ⟨a, b, c, d⟩ := rows_short L h
  have hz : sizeLine = 16777216 := sizeLine_eq
  have hb : (lotsD L).leavesShort 13 = true := by
    unfold lotsD
    simpa only [PyData.leavesShort] using b
  have hw : (lotsD L).weight ≤ 80 * L.length := by
    unfold lotsD
    simpa only [PyData.weight] using c
  have := PyData.shown_le 13 (by decide) _ hb
  refine ⟨?_, ?_, ?_, by omega⟩
  · unfold lotsD
    simpa only [PyData.showable] using a
  · unfold lotsD
    simpa only [PyData.hasDict] using d
  · unfold lotsD
    have := depth_rows L
    simp only [PyData.depth]
    omega
end Ow

/-! ## W22 -/
set_option Elab.async false
set_option linter.all false
set_option maxRecDepth 100000
set_option maxHeartbeats 16000000
/-! _law_heard(lambda: ..) as it is called -/
namespace Ow
open PySem PySem.Spec PyProof.Rows L2 LamX
structure ClH (K : PySem.W.Frag) (mg : Str → Option Value) : Prop where
  ex : ∃ (g : Addr) (fd : FuncData), Fun K "_law_heard" "_law_heard" s_law_heard g fd ∧ mg "_law_heard" = some (.ref g) ∧ PySem.W.keepIn K (.ref g) = true ∧ L2.Binds K fd ["_law_ask"] []
section
variable {X : Cx} {cF cB cG cR cN cW cC cM c P : Addr} {k : Nat} {TT : List (Addr × Str)} {params : Arguments} {body : Expr} {scope : Scope} {t : XK → TE} {p lpos pos : Pos}
theorem pe_heard (C : ClH X.K X.mg) (T : Tx X.mg) (h : Hk X.K X.mg cF cB cG cR cN cW cC cM) (hr : Room (k + 2) X.A) (TB : TabB X.base X.mg c P) (hmT : (P, X.env.qual ++ "<lambda>") ∈ TT) (hu : ∀ p ∈ TT, p.1 = P → p.2 = X.env.qual ++ "<lambda>")
    (hbody : ∀ (A : Around) (outer : List Env) (s : Shared) (H : Hp) (E : XK) (f c' : Addr), Room k (A.deeper (lamEnv X scope s.heap.objs.size f c')) → PE (lamCx X A outer s H E scope f c') body (t E))
    (hg : Gl X "_law_heard" := by rfl) (hcode : X.env.code = .ref c := by rfl) (L : LamS X.env.scope scope := by exact lamS_by rfl) (hdef : defaultsOf params X.env = ([], []) := by rfl)
    (hbind : ∀ (q : Str) (cl : List (Str × Addr)) (pm cv ctv : Value), bindArgs (PySem.W.kla_fn "<lambda>" q params body scope cl pm cv ctv) ⟨[], []⟩ = pure [] := by intros; rfl) :
    PE X (.Call (.Name "_law_heard" p) [.Lambda params body scope lpos] [] pos) (tLam TT (THeard cG cR cC) t) := by
  obtain ⟨g, fd, F, hm, hk, hb⟩ := C.ex
  obtain ⟨oc, od, kV, doc, pm, an, cdv, ct, osl, rfl, lk, hcd⟩ := F.ex
  exact pe_lamcall (a := "_law_ask") hg hm hk lk hcd hb c_law_heard rfl (.inl rfl) (heard_gives T h) TB hcode hmT hu hr L hdef hbind hbody
end
end Ow

/-! ## M7 -/
set_option Elab.async false
set_option linter.all false
set_option maxRecDepth 100000
/-! The counters beside; every showing is reached; counting places -/
namespace Ow
open PySem
section
variable {rs ss : List Nat} {ts : List (List Nat)} {first : Nat}
theorem getD_set' (l : List Nat) (d v i : Nat) (h : d < l.length) (hi : i ≠ d) : (l.set d v).getD i 0 = l.getD i 0 := by rw [getD_set _ _ _ _ h, if_neg hi]
theorem getD_setS (l : List Nat) (d v : Nat) (h : d < l.length) : (l.set d v).getD d 0 = v := by rw [getD_set _ _ _ _ h, if_pos rfl]
theorem shAs1 (n m : Nat) : shAs 1 (n + 1) m = if m ≤ n then m else n + 1 := by
  unfold shAs
  by_cases h : m ≤ n
  · rw [if_pos (.inr (by omega)), if_pos h]
  · rw [if_neg (by omega), if_neg h, Nat.mod_one]
theorem shAs0 (s m : Nat) : shAs 0 s m = m := if_pos (.inl rfl)
/-- the full counter with a limit, and the counter that stays past it -/
theorem beside {k num : Nat} {sh : List Nat} (hk : k < rs.length) (hs : ss.length = rs.length) (hsh : sh.getD k 0 = num) (hp : ∀ i, i < rs.length → i ≠ k → 0 < rs.getD i 0) (p : Pl) :
    Reach (rs.set k 0) ss ts (some sh) first p ↔ Reach (rs.set k 1) (ss.set k (num + 1)) ts none first p ∧ p.1.getD k 0 ≤ num := by
  have lim : ∀ x, inLim (rs.set k 0) (some sh) x = true ↔ x.getD k 0 ≤ num := fun x => by
    unfold inLim
    simp only [List.all_eq_true, List.mem_range, List.length_set]
    constructor
    · intro h
      have := h k hk
      rw [getD_setS _ _ _ hk, hsh] at this
      simpa using this
    · intro h i hi
      by_cases e : i = k
      · subst e
        rw [hsh, decide_eq_true h, Bool.or_true]
      · rw [getD_set' _ _ _ _ hk e]
        rw [decide_eq_true (hp i hi e), Bool.true_or]
  have nx : ∀ (x : List Nat) (d : Nat), x.length = rs.length → (d = k → x.getD k 0 + 1 ≤ num) → nextSh (rs.set k 0) ss x d = nextSh (rs.set k 1) (ss.set k (num + 1)) x d := fun x d hx h => by
    unfold nextSh
    by_cases e : d = k
    · subst e
      rw [getD_setS _ _ _ hk, getD_setS _ _ _ hk, getD_setS _ _ _ (by omega), shAs0, shAs1, if_pos (h rfl)]
    · rw [getD_set' _ _ _ _ hk e, getD_set' _ _ _ _ hk e, getD_set' _ _ _ _ (by omega) e]
  have oth : ∀ (r q : List Nat) (x : List Nat) (d : Nat), d ≠ k → x.length = rs.length → d < x.length → (nextSh r q x d).getD k 0 = x.getD k 0 := fun r q x d e _ hd => by
    unfold nextSh
    rw [getD_set' _ _ _ _ hd fun z => e z.symm]
  constructor
  · intro h
    induction h with
    | start =>
      refine ⟨?_, ?_⟩
      · have := Reach.start (rs := rs.set k 1) (ss := ss.set k (num + 1)) (ts := ts) (lim := none) (start := first)
        rw [List.length_set] at this ⊢
        exact this
      · show (List.replicate _ 0).getD k 0 ≤ num
        rw [rep0]
        exact Nat.zero_le _
    | @step p d hr hd hl ih =>
      have hpl : p.1.length = rs.length := by simpa using hr.len
      have hle := (lim _).mp hl
      have e : succP (rs.set k 0) ss ts p d = succP (rs.set k 1) (ss.set k (num + 1)) ts p d := by
        unfold succP
        rw [nx p.1 d hpl]
        intro e
        subst e
        unfold succP nextSh at hle
        simp only at hle
        rw [getD_setS _ _ _ hk, shAs0] at hle
        rcases Nat.lt_or_ge d p.1.length with z | z
        · rw [getD_setS _ _ _ z] at hle
          exact hle
        · omega
      refine ⟨?_, hle⟩
      rw [e]
      exact .step d ih.1 hd rfl
  · rintro ⟨h, hle⟩
    induction h with
    | start =>
      have := Reach.start (rs := rs.set k 0) (ss := ss) (ts := ts) (lim := some sh) (start := first)
      rw [List.length_set] at this ⊢
      exact this
    | @step p d hr hd _ ih =>
      have hpl : p.1.length = rs.length := by simpa using hr.len
      have hle' := hle
      have hk1 : p.1.getD k 0 ≤ num ∧ (d = k → p.1.getD k 0 + 1 ≤ num) := by
        by_cases e : d = k
        · subst e
          unfold succP nextSh at hle
          simp only at hle
          rw [getD_setS _ _ _ hk, getD_setS _ _ _ (by omega), getD_setS _ _ _ (by omega), shAs1] at hle
          by_cases z : p.1.getD d 0 + 1 ≤ num
          · exact ⟨by omega, fun _ => z⟩
          · rw [if_neg z] at hle
            omega
        · unfold succP at hle
          simp only at hle
          by_cases z : d < p.1.length
          · rw [oth _ _ _ _ e hpl z] at hle
            exact ⟨hle, fun e' => absurd e' e⟩
          · unfold nextSh at hle
            rw [List.set_eq_of_length_le (by omega)] at hle
            exact ⟨hle, fun e' => absurd e' e⟩
      have e : succP (rs.set k 0) ss ts p d = succP (rs.set k 1) (ss.set k (num + 1)) ts p d := by
        unfold succP
        rw [nx p.1 d hpl hk1.2]
      have st := Reach.step d (ih hk1.1) hd (by rw [lim, e]; exact hle')
      rw [e] at st
      exact st
theorem sum_set_lt : ∀ (l : List Nat) (d : Nat), d < l.length → 0 < l.getD d 0 → (l.set d (l.getD d 0 - 1)).sum < l.sum
  | [], _, h, _ => absurd h (Nat.not_lt_zero _)
  | x :: l, 0, _, hp => by
    have hp' : 0 < x := hp
    show ((x - 1) :: l).sum < (x :: l).sum
    rw [List.sum_cons, List.sum_cons]
    omega
  | x :: l, d + 1, h, hp => by
    have ih := sum_set_lt l d (by simpa using h) hp
    show (x :: l.set d (l.getD d 0 - 1)).sum < (x :: l).sum
    rw [List.sum_cons, List.sum_cons]
    omega
/-- every showing that may be shown is reached -/
theorem reach_any (hts : ts.length = rs.length) : ∀ (N : Nat) (sh : List Nat), sh.sum ≤ N → sh.length = rs.length → (∀ d, d < rs.length → sh.getD d 0 < rs.getD d 0 + ss.getD d 0) → (∀ d, d < rs.length → 0 < rs.getD d 0) → ∃ s, Reach rs ss ts none first (sh, s)
  | N, sh, hN, hl, hb, hp => by
    by_cases h0 : ∃ d, d < sh.length ∧ 0 < sh.getD d 0
    · obtain ⟨d, hd, hpos⟩ := h0
      have hlt := sum_set_lt sh d hd hpos
      match N, hN with
      | 0, hN => omega
      | N + 1, hN =>
        obtain ⟨s, hs⟩ := reach_any hts N (sh.set d (sh.getD d 0 - 1)) (by omega) (by simp [hl]) (fun i hi => by
          by_cases e : i = d
          · subst e
            rw [getD_setS _ _ _ hd]
            have := hb i hi
            omega
          · rw [getD_set' _ _ _ _ hd e]
            exact hb i hi) hp
        have st := Reach.step d hs (by omega) rfl
        unfold succP nextSh at st
        simp only at st
        have hbd := hb d (by omega)
        have hpd := hp d (by omega)
        have e : shAs (rs.getD d 0) (ss.getD d 0) (sh.getD d 0 - 1 + 1) = sh.getD d 0 := by
          rw [Nat.sub_add_cancel hpos]
          unfold shAs
          by_cases z : sh.getD d 0 < ss.getD d 0
          · rw [if_pos (.inr z)]
          · rw [if_neg (by omega), Nat.mod_eq_of_lt (by omega)]
            omega
        rw [getD_setS _ _ _ hd, e, set_back _ _ _ hd] at st
        exact ⟨_, st⟩
    · have e : sh = List.replicate rs.length 0 := by
        apply List.ext_getElem?
        intro i
        rw [List.getElem?_replicate]
        by_cases hi : i < sh.length
        · rw [if_pos (by omega), List.getElem?_eq_getElem hi]
          have : ¬ 0 < sh.getD i 0 := fun z => h0 ⟨i, hi, z⟩
          rw [List.getD_eq_getElem?_getD, List.getElem?_eq_getElem hi] at this
          simp only [Option.getD_some] at this
          congr 1
          omega
        · rw [List.getElem?_eq_none (by omega), if_neg (by omega)]
      rw [e]
      exact ⟨first, .start⟩
end
/-! ### counting -/
abbrev Rw := List Nat × List Nat
def flatP (A : List Rw) : List Pl := A.flatMap fun q => q.2.map fun s => (q.1, s)
def lenP (A : List Rw) : Nat := (A.map fun q => q.2.length).sum
theorem len_flatP : ∀ A : List Rw, (flatP A).length = lenP A
  | [] => rfl
  | q :: A => by
    have := len_flatP A
    unfold flatP lenP at this ⊢
    rw [List.flatMap_cons, List.length_append, List.length_map, List.map_cons, List.sum_cons, this]
theorem mem_flatP {A : List Rw} {p : Pl} : p ∈ flatP A ↔ ∃ q ∈ A, q.1 = p.1 ∧ p.2 ∈ q.2 := by
  unfold flatP
  rw [List.mem_flatMap]
  constructor
  · rintro ⟨q, hq, h⟩
    obtain ⟨s, hs, rfl⟩ := List.mem_map.mp h
    exact ⟨q, hq, rfl, hs⟩
  · rintro ⟨q, hq, e, h⟩
    exact ⟨q, hq, List.mem_map.mpr ⟨p.2, h, Prod.ext e rfl⟩⟩
theorem few_places {l : List Pl} {A : List Rw} (nd : l.Nodup) (h : ∀ p ∈ l, ∃ q ∈ A, q.1 = p.1 ∧ p.2 ∈ q.2) : l.length ≤ lenP A := by
  rw [← len_flatP]
  exact nodup_le l _ nd fun p hp => mem_flatP.mpr (h p hp)
theorem nodup_flatP : ∀ {A : List Rw}, (A.map (·.1)).Nodup → (∀ q ∈ A, q.2.Nodup) → (flatP A).Nodup
  | [], _, _ => List.nodup_nil
  | q :: A, h1, h2 => by
    rw [List.map_cons, List.nodup_cons] at h1
    have ih := nodup_flatP h1.2 fun x hx => h2 x (List.mem_cons_of_mem _ hx)
    show (q.2.map (fun s => (q.1, s)) ++ flatP A).Nodup
    refine List.nodup_append.mpr ⟨?_, ih, fun a ha b hb e => ?_⟩
    · unfold List.Nodup
      rw [List.pairwise_map]
      exact (h2 q List.mem_cons_self).imp fun h z => h (congrArg Prod.snd z)
    · obtain ⟨s, _, rfl⟩ := List.mem_map.mp ha
      obtain ⟨q', hq', e1, _⟩ := mem_flatP.mp hb
      rw [← e] at e1
      exact h1.1 (List.mem_map.mpr ⟨q', hq', e1⟩)
theorem many_places {l : List Pl} {A : List Rw} (h1 : (A.map (·.1)).Nodup) (h2 : ∀ q ∈ A, q.2.Nodup) (h : ∀ q ∈ A, ∀ s ∈ q.2, (q.1, s) ∈ l) : lenP A ≤ l.length := by
  rw [← len_flatP]
  exact nodup_le _ l (nodup_flatP h1 h2) fun p hp => by
    obtain ⟨q, hq, e, hs⟩ := mem_flatP.mp hp
    have := h q hq p.2 hs
    rw [e] at this
    exact this
end Ow

/-! ## W22b -/
set_option Elab.async false
set_option linter.all false
set_option maxRecDepth 100000
set_option maxHeartbeats 4000000
/-! What stays over the law's calls; more readings -/
namespace Ow
open PySem PySem.Spec PyProof.Rows L2 LamX
/-- all but the box and the tables stays -/
def Kp (b : Addr) (H H' : Hp) : Prop := ∀ a o, a ≠ b → (∀ ps, o ≠ .tbl ps) → H a = some o → H' a = some o
section
variable {b : Addr} {H H1 H2 H' : Hp}
theorem Kp.refl : Kp b H H := fun _ _ _ _ e => e
theorem Kp.trans (h : Kp b H H1) (h' : Kp b H1 H2) : Kp b H H2 := fun a o n t e => h' a o n t (h a o n t e)
theorem Kp.same (h : Same H H') : Kp b H H' := fun a o _ _ e => h a o e
theorem Kp.sx (h : SameX b H H') : Kp b H H' := fun a o n _ e => h a o n e
theorem Kp.ext (h : ExtN H H') : Kp b H H' := fun a o _ t e => h a o e t
theorem Kp.new {p : Addr} {o : HO} (h : Kp b H H') (n : H p = none) : Kp b H (upd H' p o) := fun a u na t e => by
  rw [upd_ne (ne_of_none e n)]
  exact h a u na t e
theorem Kp.tup {a : Addr} {xs : List V} (s : Kp b H H') (hb : Bx H b) (h : H a = some (.tup xs)) : H' a = some (.tup xs) := s a _ (let ⟨_, _, e⟩ := hb; lst_ne_tup e h) (fun _ z => nomatch z) h
theorem Kp.ins {a C d : Addr} {fs : List (Str × V)} (s : Kp b H H') (hb : Bx H b) (h : H a = some (.ins C d fs)) : H' a = some (.ins C d fs) := s a _ (let ⟨_, _, e⟩ := hb; ne_of h e fun z => nomatch z) (fun _ z => nomatch z) h
theorem Kp.dT {a : Addr} {kvs : List (List L2.Key × V)} (s : Kp b H H') (hb : Bx H b) (h : H a = some (.dT kvs)) : H' a = some (.dT kvs) := s a _ (let ⟨_, _, e⟩ := hb; ne_of h e fun z => nomatch z) (fun _ z => nomatch z) h
theorem Kp.refs {a : Addr} {as : List Addr} (s : Kp b H H') (hb : Bx H b) (h : H a = some (.lst (as.map V.ref))) : H' a = some (.lst (as.map V.ref)) := s a _ (fun z => by
  obtain ⟨x, y, e⟩ := hb
  rw [z, e] at h
  cases as with
  | nil => cases h
  | cons c as => cases h) (fun _ z => nomatch z) h
theorem TN.kp {a : Addr} {l : List Nat} (h : TN H a l) (s : Kp b H H') (hb : Bx H b) : TN H' a l := s.tup hb h
theorem TT2.kp {a : Addr} {l : List (List Nat)} (h : TT2 H a l) (s : Kp b H H') (hb : Bx H b) : TT2 H' a l := let ⟨as, h1, h2⟩ := h; ⟨as, s.tup hb h1, Paired.mapP h2 fun _ _ z => z.kp s hb⟩
theorem LN.kp {a : Addr} {l : List Nat} (h : LN H a l) (s : Kp b H H') (n : a ≠ b) : LN H' a l := s a _ n (fun _ z => nomatch z) h
theorem CoAt.kp {cC c : Addr} {rs ss : List Nat} (h : CoAt cC H c rs ss) (s : Kp b H H') (hb : Bx H b) : CoAt cC H' c rs ss := let ⟨d, p, q, h1, h2, h3⟩ := h; ⟨d, p, q, s.ins hb h1, h2.kp s hb, h3.kp s hb⟩
theorem MaAt.kp {cM m : Addr} {ts : List (List Nat)} {n : Nat} (h : MaAt cM H m ts n) (s : Kp b H H') (hb : Bx H b) : MaAt cM H' m ts n := let ⟨d, a, h1, h2⟩ := h; ⟨d, a, s.ins hb h1, h2.kp s hb⟩
theorem PrsAt.kp {a : Addr} {l : List Nat} (h : PrsAt H a l) (s : Kp b H H') (hb : Bx H b) : PrsAt H' a l := let ⟨as, h1, h2⟩ := h; ⟨as, s.refs hb h1, Paired.mapP h2 fun _ _ z => s.tup hb z⟩
theorem LotsAt.kp {a : Addr} {L : List (List Nat × List Nat)} (h : LotsAt H a L) (s : Kp b H H') (hb : Bx H b) : LotsAt H' a L := h.keep fun _ _ e => s.tup hb e
theorem tabs_lst {T : List (Addr × Str)} (t : Tabs T H) (e : ∀ a o, H a = some o → (∀ xs, o ≠ .lst xs) → H' a = some o) : Tabs T H' := fun p hp => by
  obtain ⟨ps, h1, h2, h3⟩ := t p hp
  refine ⟨ps, e _ _ h1 (fun _ z => nomatch z), h2, fun pos cv hc => ?_⟩
  obtain ⟨c, e1, e2⟩ := h3 pos cv hc
  exact ⟨c, e1, e _ _ e2 (fun _ z => nomatch z)⟩
theorem tabs_sx {T : List (Addr × Str)} (t : Tabs T H) (hb : Bx H b) (s : SameX b H H') : Tabs T H' := tabs_lst t fun a o e n => s a o (let ⟨_, _, e'⟩ := hb; ne_of e e' (n _)) e
theorem tabs_same {T : List (Addr × Str)} (t : Tabs T H) (s : Same H H') : Tabs T H' := LamX.Tabs.ext t s
end
/-! ### the dict of all that is opened, by rows -/
structure OpL (H : Hp) (d : Addr) (l : List Pl) (ks : List (List Nat × Addr)) (A : List Rw) : Prop where
  at_ : H d = some (.dT (ksV ks))
  pr : Paired (fun q (a : Rw) => q.1 = a.1 ∧ PrsAt H q.2 a.2) ks A
  nd : (A.map (·.1)).Nodup
  row : ∀ a ∈ A, a.2.Pairwise (· < ·) ∧ ∀ s, s ∈ a.2 ↔ (a.1, s) ∈ l
  all : ∀ p ∈ l, ∃ a ∈ A, a.1 = p.1
  non : ∀ a ∈ A, ∃ p ∈ l, p.1 = a.1
theorem Opened.rows {H : Hp} {d : Addr} {l : List Pl} (h : Opened H d l) : ∃ ks A, OpL H d l ks A := by
  obtain ⟨ks, O⟩ := h
  obtain ⟨A, hl, hA⟩ := exists_list (Q := fun i (q : List Nat × Addr) (a : Rw) => q.1 = a.1 ∧ PrsAt H q.2 a.2 ∧ a.2.Perm (stOf l a.1) ∧ a.2.Pairwise (· < ·)) (ys := ks) fun i q hq => by
    obtain ⟨sts, h1, h2, h3⟩ := O.prs i q hq
    exact ⟨(q.1, sts), rfl, h1, h2, h3 (List.getElem?_eq_some_iff.mp hq).1⟩
  have pr : Paired (fun q (a : Rw) => q.1 = a.1 ∧ PrsAt H q.2 a.2) ks A := paired_of_get hl.symm fun j x y e1 e2 => ⟨(hA j x y e1 e2).1, (hA j x y e1 e2).2.1⟩
  have back : ∀ a ∈ A, ∃ q ∈ ks, q.1 = a.1 ∧ a.2.Perm (stOf l a.1) ∧ a.2.Pairwise (· < ·) := fun a ha => by
    obtain ⟨j, hj⟩ := List.mem_iff_getElem?.mp ha
    obtain ⟨q, hq⟩ := get_lt (show j < ks.length by have := (List.getElem?_eq_some_iff.mp hj).1; omega)
    obtain ⟨e1, _, e2, e3⟩ := hA j q a hq hj
    exact ⟨q, List.mem_of_getElem? hq, e1, e2, e3⟩
  have keys : A.map (·.1) = ks.map (·.1) := by
    apply List.ext_getElem?
    intro j
    rw [List.getElem?_map, List.getElem?_map]
    by_cases hj : j < ks.length
    · obtain ⟨q, hq⟩ := get_lt hj
      obtain ⟨a, ha⟩ := get_lt (show j < A.length by omega)
      rw [hq, ha]
      exact congrArg some (hA j q a hq ha).1.symm
    · rw [List.getElem?_eq_none (by omega), List.getElem?_eq_none (by omega)]
      rfl
  refine ⟨ks, A, O.at_, pr, by rw [keys]; exact O.nd, fun a ha => ?_, fun p hp => ?_, fun a ha => ?_⟩
  · obtain ⟨q, _, _, e2, e3⟩ := back a ha
    exact ⟨e3, fun s => e2.mem_iff.trans mem_stOf⟩
  · obtain ⟨d1, hd⟩ := O.all p hp
    have : p.1 ∈ A.map (·.1) := by rw [keys]; exact List.mem_map.mpr ⟨_, hd, rfl⟩
    obtain ⟨a, ha, e⟩ := List.mem_map.mp this
    exact ⟨a, ha, e⟩
  · obtain ⟨q, hq, e1, _⟩ := back a ha
    obtain ⟨p, hp, e⟩ := O.non q hq
    exact ⟨p, hp, e.trans e1⟩
theorem OpL.kp {b : Addr} {H H' : Hp} {d : Addr} {l : List Pl} {ks : List (List Nat × Addr)} {A : List Rw} (h : OpL H d l ks A) (s : Kp b H H') (hb : Bx H b) : OpL H' d l ks A :=
  ⟨s.dT hb h.at_, Paired.mapP h.pr fun _ _ ⟨z1, z2⟩ => ⟨z1, z2.kp s hb⟩, h.nd, h.row, h.all, h.non⟩
theorem OpL.len {H : Hp} {d : Addr} {l : List Pl} {ks : List (List Nat × Addr)} {A : List Rw} (h : OpL H d l ks A) : ks.length = A.length := Paired.length h.pr
theorem OpL.sum {H : Hp} {d : Addr} {l : List Pl} {ks : List (List Nat × Addr)} {A : List Rw} (h : OpL H d l ks A) (f : Rw → Bool) : lenP (A.filter f) ≤ l.length :=
  many_places (h.nd.sublist (List.Sublist.map _ List.filter_sublist)) (fun q hq => (h.row q (List.mem_filter.mp hq).1).1.imp fun h => Nat.ne_of_lt h) fun q hq s hs => ((h.row q (List.mem_filter.mp hq).1).2 s).mp hs
theorem keys_eq {H : Hp} {ks : List (List Nat × Addr)} {A : List Rw} (h : Paired (fun q (a : Rw) => q.1 = a.1 ∧ PrsAt H q.2 a.2) ks A) : ks.map (·.1) = A.map (·.1) := by
  induction h with
  | nil => rfl
  | cons r t ih => rw [List.map_cons, List.map_cons, ih, r.1]
theorem OpL.get {H : Hp} {d : Addr} {l : List Pl} {ks : List (List Nat × Addr)} {A : List Rw} (h : OpL H d l ks A) {sh : List Nat} (hs : ∃ p ∈ l, p.1 = sh) : ∃ q A', valV (ksV ks) (skey sh) = some (.ref q) ∧ PrsAt H q A' ∧ (sh, A') ∈ A := by
  obtain ⟨p, hp, rfl⟩ := hs
  obtain ⟨a, ha, e⟩ := h.all p hp
  obtain ⟨j, hj⟩ := List.mem_iff_getElem?.mp ha
  obtain ⟨q, hq, e1, e2⟩ := paired_at h.pr hj
  have nd : (ks.map (·.1)).Nodup := by
    rw [keys_eq h.pr]
    exact h.nd
  refine ⟨q.2, a.2, ?_, e2, by rw [← e]; exact ha⟩
  rw [← e, ← e1]
  exact ks_some nd (List.mem_of_getElem? hq)
theorem OpL.none {H : Hp} {d : Addr} {l : List Pl} {ks : List (List Nat × Addr)} {A : List Rw} (h : OpL H d l ks A) {sh : List Nat} (hs : ∀ p ∈ l, p.1 ≠ sh) : valV (ksV ks) (skey sh) = none := by
  cases e : valV (ksV ks) (skey sh) with
  | none => rfl
  | some v =>
    obtain ⟨d1, hd, _⟩ := ks_of e
    obtain ⟨j, hj⟩ := List.mem_iff_getElem?.mp hd
    obtain ⟨a, ha, e1, _⟩ := paired_at' h.pr hj
    obtain ⟨p, hp, e2⟩ := h.non a (List.mem_of_getElem? ha)
    exact absurd (e2.trans e1.symm) (hs p hp)
/-! ### a comprehension with a test -/
section
variable {K : PySem.W.Frag} {D : Addr} {g : TG} {tt : TT} {te : TE} {vs : List Nat} {σ : L2.St} {H1 : Hp} {Qd : Hp → Prop}
theorem lcE_gen {I0 : It} {n : Nat} (Iv : Nat → Hp → Prop) (h0 : Iv 0 (upd H1 D (.lst []))) (hgo : ∀ i H, i < n → Iv i H → I0.go i H) (hst : ∀ H, Iv n H → I0.stop n H)
    (hs : ∀ i x H H', i < n → Iv i H → I0.yld i H x H' → g x (wipe σ vs) H' fun σ2 H2 => wipe σ2 vs = wipe σ vs ∧ tt σ2 H2 fun b H3 => if b = true then te σ2 H3 fun y H4 => ∃ acc, H4 D = some (.lst acc) ∧ acc.length < sizeLine ∧ Iv (i + 1) (upd H4 D (.lst (acc ++ [y]))) else Iv (i + 1) H3) (hd : ∀ H, Iv n H → Qd H) :
    ∃ W : Nat → Nat → Hp → Prop, (∃ m, W 0 m (upd H1 D (.lst []))) ∧ ∀ i m H, W i m H →
      (I0.stop i H ∧ Qd H) ∨ (I0.go i H ∧ ∃ Nx : Hp → Prop, (∀ H', Nx H' → ∃ m', m' < m ∧ W (i + 1) m' H') ∧ ∀ x H', I0.yld i H x H' → g x (wipe σ vs) H' fun σ2 H2 => wipe σ2 vs = wipe σ vs ∧ tt σ2 H2 fun b H3 =>
        if b = true then te σ2 H3 fun y H4 => ∃ acc, H4 D = some (.lst acc) ∧ acc.length < sizeLine ∧ Nx (upd H4 D (.lst (acc ++ [y]))) else Nx H3) := by
  refine ⟨fun i m H => m = n - i ∧ i ≤ n ∧ Iv i H, ⟨n, by simp, Nat.zero_le _, h0⟩, ?_⟩
  rintro i m H ⟨rfl, hi, iv⟩
  by_cases hlt : i < n
  · exact .inr ⟨hgo i H hlt iv, Iv (i + 1), fun H' p' => ⟨n - (i + 1), by omega, rfl, hlt, p'⟩, fun x H' y => hs i x H H' hlt iv y⟩
  · have e : i = n := by omega
    subst e
    exact .inl ⟨hst H iv, hd H iv⟩
theorem spliceL {tb td tv : TE} {H : Hp} {Q : VK} {b : Addr} {l : List Nat} {d m : Nat} (hb : LN H b l) (hd : d < l.length) (hz : l.length ≤ 100) (rb : ∀ H' Q, Same H H' → Q (.ref b) H' → tb σ H' Q) (rd : ∀ H' Q, Same H H' → Q (nV d) H' → td σ H' Q)
    (rv : ∀ H' Q, Same H H' → (∀ H'', Same H' H'' → Q (nV m) H'') → tv σ H' Q) (q : ∀ H' p, Same H H' → H p = none → LN H' p (l.set d m) → Q (.ref p) H') :
    tOp rCat (tOp rCat (tSl (rSlL K) tb tNoPart (tPart td)) (tLst (tCons tv tNil))) (tSl (rSlL K) tb (tPart (tOp (rI0 fun i j => .int (i + j)) td (tC (.int 1)))) tNoPart) σ H Q := by
  have hsz : sizeLine = 16777216 := sizeLine_eq
  refine rb H _ (Same.refl H) (rd H _ (Same.refl H) ⟨_, rfl, b, _, rfl, LN.sq hb, fun p1 n1 => ?_⟩)
  have s1 : Same H (upd H p1 (.lst (cutV (nVs l) none (some (d : Nat))))) := Same.upd n1
  have e1 : LN (upd H p1 (.lst (cutV (nVs l) none (some (d : Nat))))) p1 (l.take d) := by
    show _ = _
    rw [upd_same, cut_to]
  generalize upd H p1 (.lst (cutV (nVs l) none (some (d : Nat)))) = H1 at s1 e1 ⊢
  refine rv H1 _ s1 fun H2 s2 => ⟨by show 1 ≤ sizeLine; decide, fun p2 n2 => ?_⟩
  have s3 := s2.trans (Same.upd n2 (o := .lst [nV m]))
  have e2 : LN (upd H2 p2 (.lst [nV m])) p2 [m] := upd_same
  generalize upd H2 p2 (.lst [nV m]) = H3 at s3 e2 ⊢
  refine ⟨p1, p2, _, _, rfl, rfl, e1.same s3, e2, by rw [nVs_len, nVs_len]; simp; omega, fun p3 n3 => ?_⟩
  have s4 := (s1.trans s3).trans (Same.upd n3 (o := .lst (nVs (l.take d) ++ nVs [m])))
  have e4 : LN (upd H3 p3 (.lst (nVs (l.take d) ++ nVs [m]))) p3 (l.take d ++ [m]) := by
    show _ = _
    rw [upd_same]
    simp [nVs]
  generalize upd H3 p3 (.lst (nVs (l.take d) ++ nVs [m])) = H4 at s4 e4 ⊢
  refine rb H4 _ s4 (rd H4 _ s4 ⟨_, _, rfl, rfl, _, rfl, b, _, rfl, LN.sq (hb.same s4), fun p5 n5 => ?_⟩)
  have s5 := Same.upd n5 (o := .lst (cutV (nVs l) (some ((d : Int) + 1)) none))
  have e5 : LN (upd H4 p5 (.lst (cutV (nVs l) (some ((d : Int) + 1)) none))) p5 (l.drop (d + 1)) := by
    show _ = _
    rw [upd_same, show ((d : Int) + 1) = ((d + 1 : Nat) : Int) from rfl, cut_from]
  refine ⟨p3, p5, _, _, rfl, rfl, e4.same s5, e5, by rw [nVs_len, nVs_len]; simp; omega, fun p6 n6 => ?_⟩
  refine q _ p6 ((s4.trans s5).trans (Same.upd n6)) ((s4.trans s5).free n6) ?_
  show _ = _
  rw [upd_same, ← set_cut l d m hd]
  simp [nVs]
end
end Ow

/-! ## M8 -/
set_option Elab.async false
set_option linter.all false
set_option maxRecDepth 100000
/-! == of what is heard -/
namespace Ow
open PySem
theorem lay_nums : ∀ l : List Int, PyData.canLayAll0 (l.map .int) = true
  | [] => by simp [PyData.canLayAll0]
  | x :: l => by simp [PyData.canLayAll0, PyData.canLay0, lay_nums l]
theorem lay_sh (l : List Nat) : (encSh l).canLay0 = true := by
  unfold encSh
  simp [PyData.canLay0, lay_nums]
theorem lay_row (q : List Nat × List Nat) : (encRow q).canLay0 = true := by
  unfold encRow
  simp [PyData.canLay0, PyData.canLayAll0, lay_sh]
theorem lay_rows : ∀ L : List (List Nat × List Nat), PyData.canLayAll0 (L.map encRow) = true
  | [] => by simp [PyData.canLayAll0]
  | q :: L => by simp [PyData.canLayAll0, lay_row, lay_rows L]
theorem lay_lots (L : List (List Nat × List Nat)) : (lotsD L).canLay0 = true := by
  unfold lotsD
  simp [PyData.canLay0, lay_rows]
theorem depth_lots (L : List (List Nat × List Nat)) : (lotsD L).depth ≤ 3 := by
  have := depth_rows L
  unfold lotsD
  simp only [PyData.depth]
  omega
theorem shaped_of {d : PyData} (h : d.canLay0 = true) (hd : d.depth ≤ 60) : SeqAt.shaped d = true := by
  unfold SeqAt.shaped
  rw [h, decide_eq_true (by omega)]
  rfl
def toldD (d : PyData) : PyData := .tuple [.str "told", d]
def greatD (n : Nat) : PyData := .tuple [.str "great", .int (n : Nat), .bool true]
theorem shaped_told {d : PyData} (h : d.canLay0 = true) (hd : d.depth ≤ 50) : SeqAt.shaped (toldD d) = true := by
  refine shaped_of ?_ ?_
  · unfold toldD
    simp [PyData.canLay0, PyData.canLayAll0, h]
    decide +kernel
  · unfold toldD
    simp only [PyData.depth, PyData.depthAll]
    omega
theorem shaped_great (n : Nat) : SeqAt.shaped (greatD n) = true := by
  refine shaped_of ?_ ?_
  · unfold greatD
    simp [PyData.canLay0, PyData.canLayAll0]
    decide +kernel
  · unfold greatD
    simp [PyData.depth, PyData.depthAll]
theorem eqv_told {d : PyData} (h : PyData.eqv d d = true) : PyData.eqv (toldD d) (toldD d) = true := by
  unfold toldD
  simp [PyData.eqv, PyData.eqvAll, h]
theorem eqv_great (n : Nat) : PyData.eqv (greatD n) (greatD n) = true := by
  unfold greatD
  simp [PyData.eqv, PyData.eqvAll]
theorem eqv_str : PyData.eqv (.str "great") (.str "told") = false := by
  simp only [PyData.eqv]
  decide +kernel
theorem eqv_mix (n : Nat) (d : PyData) : PyData.eqv (greatD n) (toldD d) = false := by
  unfold greatD toldD
  rw [show PyData.eqv (.tuple [.str "great", .int (n : Nat), .bool true]) (.tuple [.str "told", d]) = PyData.eqvAll [.str "great", .int (n : Nat), .bool true] [.str "told", d] from by simp only [PyData.eqv]]
  rw [show PyData.eqvAll [.str "great", .int (n : Nat), .bool true] [.str "told", d] = (PyData.eqv (.str "great") (.str "told") && PyData.eqvAll [.int (n : Nat), .bool true] [d]) from by simp only [PyData.eqvAll]]
  rw [eqv_str, Bool.false_and]
theorem eqv_row (q : List Nat × List Nat) : PyData.eqv (encRow q) (encRow q) = true := by
  unfold encRow
  simp [PyData.eqv, PyData.eqvAll, eqv_sh]
theorem eqv_rows : ∀ L : List (List Nat × List Nat), PyData.eqvAll (L.map encRow) (L.map encRow) = true
  | [] => by simp [PyData.eqvAll]
  | q :: L => by simp [PyData.eqvAll, eqv_row, eqv_rows L]
theorem eqv_lots (L : List (List Nat × List Nat)) : PyData.eqv (lotsD L) (lotsD L) = true := by
  unfold lotsD
  simp [PyData.eqv, eqv_rows]
theorem eqv_sh1 (l : List Nat) : PyData.eqv (encSh l) (encSh l) = true := by rw [eqv_sh]; exact decide_eq_true rfl
/-- sums of lengths -/
theorem sum_lens : ∀ A : List Rw, (A.map fun q => (q.2.length : Int)).sum = ((lenP A : Nat) : Int)
  | [] => rfl
  | q :: A => by
    have := sum_lens A
    unfold lenP at this ⊢
    rw [List.map_cons, List.sum_cons, this, List.map_cons, List.sum_cons]
    omega
end Ow

/-! ## W23 -/
set_option Elab.async false
set_option linter.all false
set_option maxRecDepth 100000
set_option maxHeartbeats 32000000
/-! _law_beside_right -/
namespace Ow
open PySem PySem.Spec PyProof.Rows L2 LamX
abbrev s_law_beside_right : Stmt := topS 58
theorem c_law_beside_right : FnScope ["_law_box_here", "_law_machine", "_law_tables_here", "_law_first", "_law_rounds", "_law_rests", "_law_spot", "_law_number", "_law_showing", "_law_counters", "_law_opened_here", "_law_due", "_law_many", "_law_least", "_law_heard_here", "_law_turn", "_law_rest", "_law_state", "_law_standing", "_law_one"] ["_law_box_here", "_law_machine", "_law_tables_here", "_law_first", "_law_rounds", "_law_rests"] (defScope s_law_beside_right) := ⟨rfl, rfl, rfl, by decide +kernel, rfl, by decide +kernel, by decide +kernel⟩
abbrev s_law_one_right : Stmt := topS 59
theorem c_law_one_right : FnScope ["_law_box_here", "_law_machine", "_law_tables_here", "_law_first", "_law_rounds", "_law_rests", "_law_opened_here", "_law_showing", "_law_due", "_law_counters", "_law_many", "_law_full", "_law_numbers", "_law_told", "_law_turn", "_law_rest", "_law_state", "_law_standing", "_law_one", "_law_deed"] ["_law_box_here", "_law_machine", "_law_tables_here", "_law_first", "_law_rounds", "_law_rests", "_law_opened_here"] (defScope s_law_one_right) := ⟨rfl, rfl, rfl, by decide +kernel, rfl, by decide +kernel, by decide +kernel⟩
abbrev s_law : Stmt := topS 60
theorem c_law : FnScope ["_law_script", "_law_k", "_law_box_here", "_law_tables_here", "_law_first", "_law_machine", "_law_deeds", "_law_rounds", "_law_rests", "_law_opened_here", "_law_due", "_law_counters", "_law_many", "_law_greatest", "_law_least", "_law_heard_here", "_law_deed", "_law_showing", "_law_state", "_law_standing", "_law_states"] ["_law_script"] (defScope s_law) := ⟨rfl, rfl, rfl, by decide +kernel, rfl, by decide +kernel, by decide +kernel⟩

abbrev lamQ (x : Str) (sc : Scope) : Str := (envOfC x sc 0 0 .none).qual ++ "<lambda>"
theorem nats_of' : ∀ {ys : List V} {f : Nat → Nat}, (∀ (j : Nat) y, ys[j]? = some y → ∃ d, d < f j ∧ y = nV d) → ∃ l : List Nat, ys = nVs l ∧ ∀ j, j < l.length → l.getD j 0 < f j
  | [], _, _ => ⟨[], rfl, fun j h => absurd h (Nat.not_lt_zero j)⟩
  | y :: ys, f, h => by
    obtain ⟨d, hd, rfl⟩ := h 0 y rfl
    obtain ⟨l, rfl, hl⟩ := nats_of' (ys := ys) (f := fun j => f (j + 1)) fun j z hz => h (j + 1) z hz
    refine ⟨d :: l, rfl, fun j hj => ?_⟩
    cases j with
    | zero => exact hd
    | succ j => exact hl j (by simpa using hj)
theorem ixN_nat {n i : Nat} (h : i < n) : ixN n (i : Nat) = some i := by
  unfold ixN
  rw [if_pos (by omega), if_pos (by omega)]
  rfl
theorem nVs_set (l : List Nat) (i v : Nat) : (nVs l).set i (nV v) = nVs (l.set i v) := by
  unfold nVs
  rw [List.map_set]
theorem refs_repl (k : Nat) (z : Addr) : (List.replicate k [V.ref z]).flatten = List.replicate k (.ref z) := by
  induction k with
  | zero => rfl
  | succ k ih => rw [List.replicate_succ, List.flatten_cons, ih, List.replicate_succ]; rfl
theorem mem_getD {l : List Nat} {i c : Nat} (h : ∀ x ∈ l, x ≤ c) : l.getD i 0 ≤ c := by
  rw [List.getD_eq_getElem?_getD]
  cases e : l[i]? with
  | none => exact Nat.zero_le _
  | some x => exact h x (List.mem_of_getElem? e)
theorem mem_set_le {l : List Nat} {i v c : Nat} (h : ∀ x ∈ l, x ≤ c) (hv : v ≤ c) : ∀ x ∈ l.set i v, x ≤ c := fun x hx => by
  rcases List.mem_or_eq_of_mem_set hx with z | z
  · exact h x z
  · omega
theorem asg_make {C : Addr} {sp : Sp} {dvs : List V} {E : XK} {te : TE} {ta : TA} {g : TG} {D : Ends} {σ : L2.St} {H : Hp}
    (h : te σ H fun v H1 => ta σ H1 fun vs H2 => ∀ x dx, H2 x = none → H2 dx = none → dx ≠ x → sp (.ref x :: ((v :: vs) ++ dvs)) (upd (upd H2 dx (.own x)) x (.ins C dx [])) (fun v H3 => v = .non ∧ g (.ref x) σ H3 D.nx) E) : tAsg (tMake C sp dvs E (tCons te ta)) g D σ H := h
theorem seq_asg {C : Addr} {sp : Sp} {dvs : List V} {E : XK} {te : TE} {ta : TA} {g : TG} {D : Ends} {σ : L2.St} {H : Hp} {b : TS}
    (h : te σ H fun v H1 => ta σ H1 fun vs H2 => ∀ x dx, H2 x = none → H2 dx = none → dx ≠ x → sp (.ref x :: ((v :: vs) ++ dvs)) (upd (upd H2 dx (.own x)) x (.ins C dx [])) (fun v H3 => v = .non ∧ g (.ref x) σ H3 (b D)) E) : tSeq (tAsg (tMake C sp dvs E (tCons te ta)) g) b D σ H := h
/-- == of told lists, and of great ones -/
theorem eqv_same (l : List Nat) : PyData.eqv (encSh l) (encSh l) = true := by rw [eqv_sh]; exact decide_eq_true rfl
section
variable {P : Program} {w : World} {K : PySem.W.Frag} {mg : Str → Option Value} {base : Heap} {cC cM cT cG cR cF cB cN cW : Addr}
def spBeside (cM : Addr) (TT : List (Addr × Str)) : Sp := fun vs H Q _ => ∃ (b m ta r s : Addr) (ts : List (List Nat)) (n first : Nat) (rs ss : List Nat), vs = [.ref b, .ref m, .ref ta, nV first, .ref r, .ref s] ∧ Bx H b ∧ MaAt cM H m ts n ∧ TT2 H ta ts ∧ TbOk ts n ∧ first < n ∧ LN H r rs ∧ LN H s ss ∧ r ≠ b ∧ s ≠ b ∧ rs.length = ts.length ∧ ss.length = rs.length ∧
  (∀ i, i < rs.length → 0 < rs.getD i 0) ∧ (∀ x ∈ rs, x ≤ 4) ∧ (∀ x ∈ ss, x ≤ 2) ∧ Tabs TT H ∧ ∀ H', Kp b H H' → Bx H' b → Tabs TT H' → Q (.bl true) H'
theorem ok_law_beside_right {f c Pt : Addr} {fd : FuncData} {TT : List (Addr × Str)} (F : FunC K "_law_beside_right" s_law_beside_right f fd c) (T : Tx mg) (C_law_heard : ClH K mg) (hk : Hk K mg cF cB cG cR cN cW cC cM) (TB : TabB base mg c Pt) (hmT : (Pt, lamQ "_law_beside_right" (defScope s_law_beside_right)) ∈ TT) (hu : ∀ p ∈ TT, p.1 = Pt → p.2 = lamQ "_law_beside_right" (defScope s_law_beside_right))
    (C_law_take : Cl P w K mg base CX0 1 "_law_take" ["_law_box_here", "_law_many"] (spTake) [])
    (C_law_opened : Cl P w K mg base CX0 2 "_law_opened" ["_law_tables_here", "_law_first", "_law_rounds", "_law_rests", "_law_witness", "_law_start"] spOpened [])
    (C_Counters : ClM P w K mg base CX0 4 "Counters" cC ["self", "rounds", "rests"] (spCo K cC) [])
    (C_open_lot : ClK P w K mg base (L2.CX P w) 7 "open_lot" ["machine", "first", "counters", "showing", "most"] 4 ["most"] gApp (spLot cC cM cG)) : FnG P w K mg base CX0 12 f fd ["_law_box_here", "_law_machine", "_law_tables_here", "_law_first", "_law_rounds", "_law_rests"] (spBeside cM TT) := by
  refine funG F c_law_beside_right (fun vs H Q E h => ?_) (fun A outer s H vs Q E hgd hr h => ?_)
  · obtain ⟨b, m, ta, r, s, ts, n, first, rs, ss, rfl, _⟩ := h
    rfl
  have hgd' : (A.deeper (envOfC "_law_beside_right" (defScope s_law_beside_right) s.heap.objs.size f (.ref c))).guards = some [] := hgd
  obtain ⟨b, m, ta, r, s', ts, n, first, rs, ss, rfl, hb, hma, hta, ok, hf, hR, hS, nrb, nsb, hl, hs, hpos, r4, s2', hT, q⟩ := h
  refine ⟨_, pss_cons (ps_asg (pe_tup (pa_cons (pe_cl C_law_take (hr.mono (by decide)) pass0 rfl (pa_cons (pv 0) (pa_cons (pe_callB (id := "len") (r := rLenOf K) call_len_seq (by rfl) T.n_len (by decide +kernel) (pa_cons (pv 2) (pa_nil))) (pa_nil)))) (pa_cons (pe_cl C_law_take (hr.mono (by decide)) pass0 rfl (pa_cons (pv 0) (pa_cons (pe_int) (pa_nil)))) (pa_nil)))) (pg_tup rfl (pgs_cons (pg_name (i := 6) c_law_beside_right.nd rfl (Or.inr rfl)) (pgs_cons (pg_name (i := 7) c_law_beside_right.nd rfl (Or.inr rfl)) (pgs_nil)))))
  (pss_cons (ps_set (i := 8) c_law_beside_right.nd rfl (Or.inr rfl) (pe_lc (own := [("_law_turn", 15), ("_law_rest", 16)]) (g := gTup K 2 (gCons (gName 15) (gCons (gName 16) (gNil)))) (tt := tYes) rfl c_law_beside_right.nd (pi_zip (by rfl) T.n_zip (pa_cons (pv 4) (pa_cons (pv 5) (pa_nil)))) (blkOk_by (by kernel_rfl)) (fun _ _ _ _ _ => pg_tup rfl (pgs_cons (pg_name (i := 15) c_law_beside_right.nd rfl (by first | exact Or.inl rfl | exact Or.inr rfl)) (pgs_cons (pg_name (i := 16) c_law_beside_right.nd rfl (by first | exact Or.inl rfl | exact Or.inr rfl)) (pgs_nil)))) (fun _ _ _ _ _ => pts_nil) (fun _ _ _ _ _ => pe_cl C_law_take (hr.mono (by decide)) pass0 rfl (pa_cons (pv 0) (pa_cons (pe_op op_add (pv 16) (pv 15)) (pa_nil))))))
  (pss_cons (ps_asg (pv 7) (pg_sub (pv 8) (pv 6) set_list))
  (pss_cons (ps_set (i := 9) c_law_beside_right.nd rfl (Or.inr rfl) (pe_clM C_Counters (hr.mono (by decide)) pass0 rfl (pa_cons (pe_op op_cat (pe_op op_cat (pe_slice sl_list (pv 4) (po_none) (po_some (pv 6))) (pe_lst (pa_cons (pe_int) (pa_nil)))) (pe_slice sl_list (pv 4) (po_some (pe_op op_add (pv 6) (pe_int))) (po_none))) (pa_cons (pv 5) (pa_nil)))))
  (pss_cons (ps_par (i := 4) (j := 5) rfl c_law_beside_right.nd rfl rfl (by decide) rfl rfl (pa_cons (pe_op op_cat (pe_op op_cat (pe_slice sl_list (pv 4) (po_none) (po_some (pv 6))) (pe_lst (pa_cons (pe_int) (pa_nil)))) (pe_slice sl_list (pv 4) (po_some (pe_op op_add (pv 6) (pe_int))) (po_none))) (pa_cons (pe_op op_cat (pe_op op_cat (pe_slice sl_list (pv 5) (po_none) (po_some (pv 6))) (pe_lst (pa_cons (pe_op op_add (pv 7) (pe_int)) (pa_nil)))) (pe_slice sl_list (pv 5) (po_some (pe_op op_add (pv 6) (pe_int))) (po_none))) pa_nil)) (by rfl))
  (pss_cons (ps_set (i := 10) c_law_beside_right.nd rfl (Or.inr rfl) (pe_cl C_law_opened (hr.mono (by decide)) pass0 rfl (pa_cons (pv 2) (pa_cons (pv 3) (pa_cons (pv 4) (pa_cons (pv 5) (pa_cons (pe_op op_rep (pe_lst (pa_cons (pe_tup (pa_cons (pe_int) (pa_nil))) (pa_nil))) (pe_callB (id := "len") (r := rLenOf K) call_len_seq (by rfl) T.n_len (by decide +kernel) (pa_cons (pv 2) (pa_nil)))) (pa_cons (pe_int) (pa_nil)))))))))
  (pss_cons (ps_if (pt_cmpR op_isN (pv 10) (pe_non) (nomark _)) (pss_one (ps_ret (pe_bl)))
    (pss_nil))
  (pss_cons (ps_set (i := 11) c_law_beside_right.nd rfl (Or.inl rfl) (pe_callTy (T := "tuple") (r := rTupOf K) call_tuple_of (by rfl) T.n_tuple (by decide +kernel) (pa_cons (pe_lc (own := [("_law_state", 17), ("_law_standing", 18)]) (g := gTup K 2 (gCons (gName 17) (gCons (gName 18) (gNil)))) (tt := tYes) rfl c_law_beside_right.nd (pi_listK K (pe_dget (hu_of hr) (pv 10) (pe_callTy (T := "tuple") (r := rTupOf K) call_tuple_of (by rfl) T.n_tuple (by decide +kernel) (pa_cons (pv 8) (pa_nil))) (fun _ _ => rfl))) (blkOk_by (by kernel_rfl)) (fun _ _ _ _ _ => pg_tup rfl (pgs_cons (pg_name (i := 17) c_law_beside_right.nd rfl (by first | exact Or.inl rfl | exact Or.inr rfl)) (pgs_cons (pg_name (i := 18) c_law_beside_right.nd rfl (by first | exact Or.inl rfl | exact Or.inr rfl)) (pgs_nil)))) (fun _ _ _ _ _ => pts_nil) (fun _ _ _ _ _ => pv 17)) (pa_nil))))
  (pss_cons (ps_set (i := 12) c_law_beside_right.nd rfl (Or.inl rfl) (pe_callB (cr_sum rfl) (by rfl) T.n_sum (by decide +kernel) (pa_cons (pe_lock (pe_lc (own := [("_law_one", 19)]) (g := gName 19) rfl c_law_beside_right.nd (pi_keys (pv 10)) (blkOk_by (by kernel_rfl)) (fun _ _ _ _ _ => pg_name (i := 19) c_law_beside_right.nd rfl (by first | exact Or.inl rfl | exact Or.inr rfl)) (fun _ _ _ _ _ => pts_one (pt_cmpR op_le (pe_ix (r := rIxT K) ix_tup (pv 19) (pv 6) (fun _ _ => rfl)) (pv 7) (nomark _))) (fun _ _ _ _ _ => pe_callB (id := "len") (r := rLenOf K) call_len_seq (by rfl) T.n_len (by decide +kernel) (pa_cons (pe_dget (hu_of hr) (pv 10) (pv 19) (fun _ _ => rfl)) (pa_nil))))) (pa_nil))))
  (pss_cons (ps_if (pt_cmpR op_ne (pe_callB (cr_repr hgd hr.units) (by rfl) T.n_repr (by decide +kernel) (pa_cons (pe_clK C_open_lot (hr.mono (by decide)) passNo rfl (pa_cons (pv 1) (pa_cons (pv 3) (pa_cons (pv 9) (pa_cons (pv 8) (pa_nil))))) (pk_cons (pv 12) (pk_nil))) (pa_nil))) (pe_callB (cr_repr hgd hr.units) (by rfl) T.n_repr (by decide +kernel) (pa_cons (pv 11) (pa_nil))) (nomark _)) (pss_one (ps_ret (pe_bl)))
    (pss_nil))
  (pss_cons (ps_set (i := 13) c_law_beside_right.nd rfl (Or.inr rfl) (pe_op op_add (pe_int) (pe_cl C_law_take (hr.mono (by decide)) pass0 rfl (pa_cons (pv 0) (pa_cons (pe_int) (pa_nil))))))
  (pss_cons (ps_set (i := 14) c_law_beside_right.nd rfl (Or.inl rfl) (pe_heard (k := 8) C_law_heard T hk (hr.mono (by decide)) TB hmT hu (fun _ _ _ _ _ _ _ hr => pe_clK C_open_lot (hr.mono (by decide)) (passX (takes_of rfl rfl rfl rfl) (fun _ _ _ _ h => h)) rfl (pa_cons (pv 1) (pa_cons (pv 3) (pa_cons (pv 9) (pa_cons (pv 8) (pa_nil))))) (pk_cons (pv 13) (pk_nil)))))
  (pss_one (ps_ret (pe_or (pe_cmpR (op_eqD hr.units) (pv 14) (pe_tup (pa_cons (pe_str) (pa_cons (pv 11) (pa_nil)))) (nomark _)) (pe_one (pe_and (pe_cmpR (op_eqD hr.units) (pv 14) (pe_tup (pa_cons (pe_str) (pa_cons (pv 13) (pa_cons (pe_bl) (pa_nil))))) (nomark _)) (pe_one (pe_cmpR op_gt (pv 12) (pv 13) (nomark _))))))))))))))))))), ?_⟩
  have hz : sizeLine = 16777216 := sizeLine_eq
  have one := ok.one
  have four := ok.four
  obtain ⟨as, hta1, hta2⟩ := id hta
  have hal : (as.map V.ref).length = ts.length := by rw [List.length_map]; exact Paired.length hta2
  -- spot, number
  refine ⟨_, rfl, _, rfl, ta, _, rfl, .inr (SqT.of hta1), b, (as.map V.ref).length, rfl, hb, by omega, by omega, fun spot H1 hspot s1 b1 => ⟨_, rfl, b, 5, rfl, b1, by omega, by omega, fun num H2 hnum s2 b2 => ⟨by show 2 ≤ sizeLine; omega, fun tp ntp => ⟨tp, _, rfl, SqT.of upd_same, rfl, _, _, rfl, _, _, rfl, rfl, ?_⟩⟩⟩⟩
  rw [hal] at hspot
  have k3 : Kp b H (upd H2 tp (.tup [nV spot, nV num])) := ((Kp.sx s1).trans (.sx s2)).trans (.same (Same.upd ntp))
  have b3 := b2.same (Same.upd ntp (o := .tup [nV spot, nV num]))
  have t3 : Tabs TT (upd H2 tp (.tup [nV spot, nV num])) := tabs_same (tabs_sx (tabs_sx hT hb s1) b1 s2) (Same.upd ntp)
  generalize upd H2 tp (.tup [nV spot, nV num]) = H3 at k3 b3 t3 ⊢
  clear s1 b1 s2 b2 ntp
  have hR3 := hR.kp k3 nrb
  have hS3 := hS.kp k3 nsb
  have tk0 : ∀ i, i < rs.length → ss.getD i 0 + rs.getD i 0 ≤ 6 := fun i _ => by
    have := mem_getD (i := i) r4
    have := mem_getD (i := i) s2'
    omega
  -- the showing
  refine ⟨_, rfl, _, rfl, r, s', _, _, rfl, LN.sq hR3, LN.sq hS3, fun D hD => lcE_it (E := fun z => z = b) (J := fun H => Bx H b) (n := rs.length) (R := fun i y _ => ∃ d, d < ss.getD i 0 + rs.getD i 0 ∧ y = nV d) (fun i x H' => ∃ T, x = .ref T ∧ H' T = some (.tup [nV (rs.getD i 0), nV (ss.getD i 0)])) hD (fun z => (b3.ne hD) z.symm) (by omega) b3 (fun H o j => j.ne_upd (b3.ne hD)) (fun _ _ _ _ _ _ e _ => e) ?_ ?_ ?_ ?_ ?_⟩
  · intro i H4 hi s4 _
    obtain ⟨x, hx⟩ := get_lt hi
    obtain ⟨y, hy⟩ := get_lt (show i < ss.length by omega)
    exact ⟨_, _, _, _, LN.sq (s4 _ _ nrb hR3), LN.sq (s4 _ _ nsb hS3), nVs_get hx, nVs_get hy⟩
  · intro H4 s4 _
    exact ⟨_, _, LN.sq (s4 _ _ nrb hR3), LN.sq (s4 _ _ nsb hS3), .inl (by rw [nVs_len]; exact Nat.le_refl _)⟩
  · rintro i H4 x H5 hi s4 j4 ⟨T', x', y', rfl, nT, rfl, ex, ey⟩
    obtain ⟨x, hx⟩ := get_lt hi
    obtain ⟨y, hy⟩ := get_lt (show i < ss.length by omega)
    have e1 := ex _ (LN.sq (s4 _ _ nrb hR3))
    have e2 := ey _ (LN.sq (s4 _ _ nsb hS3))
    rw [nVs_get hx] at e1
    rw [nVs_get hy] at e2
    cases e1
    cases e2
    exact ⟨.of (Same.upd nT), j4.same (Same.upd nT), T', rfl, by rw [upd_same, getD_of hx, getD_of hy]⟩
  · rintro i x H4 kk hi ⟨T', rfl, hT'⟩ s4 j4 _ fin
    refine ⟨T', _, rfl, SqT.of hT', rfl, _, _, rfl, _, _, rfl, rfl, rfl, _, rfl, _, rfl, _, rfl, rI0n (c := ss.getD i 0 + rs.getD i 0) rfl ?_⟩
    have := hpos i hi
    have := tk0 i hi
    exact ⟨b, ss.getD i 0 + rs.getD i 0, rfl, j4, by omega, by omega, fun d H5 hd s5 b5 => fin _ _ s5 b5 ⟨d, hd, rfl⟩⟩
  intro H4 ys s4 b4 e4 l4 ry
  obtain ⟨sh0, rfl, hsh0⟩ := nats_of' (f := fun i => ss.getD i 0 + rs.getD i 0) ry
  rw [nVs_len] at l4
  have nDb : D ≠ b := fun z => (b3.ne hD) z.symm
  have nD0 : ∀ a o, a ≠ b → H a = some o → (∀ ps, o ≠ .tbl ps) → a ≠ D := fun a o na e t z => by
    have := k3 a o na t e
    rw [z, hD] at this
    cases this
  have t4 := tabs_sx t3 b3 s4
  have k4 := k3.trans (.sx s4)
  -- showing[spot] = number
  refine ⟨_, rfl, _, rfl, _, rfl, D, _, _, spot, rfl, rfl, e4, ixN_nat (by rw [nVs_len]; omega), ?_⟩
  rw [nVs_set]
  have e5 : LN (upd H4 D (.lst (nVs (sh0.set spot num)))) D (sh0.set spot num) := upd_same
  have k5 : Kp b H (upd H4 D (.lst (nVs (sh0.set spot num)))) := fun a o na t e => by
    rw [upd_ne (nD0 a o na e t)]
    exact k4 a o na t e
  have b5 := b4.ne_upd (o := .lst (nVs (sh0.set spot num))) (b3.ne hD)
  have t5 : Tabs TT (upd H4 D (.lst (nVs (sh0.set spot num)))) := tabs_lst t4 fun a o e n => by
    rw [upd_ne (ne_of e e4 (n _))]
    exact e
  have hsl : (sh0.set spot num).length = rs.length := by rw [List.length_set]; exact l4
  have hsk : (sh0.set spot num).getD spot 0 = num := getD_setS _ _ _ (by omega)
  have hso : ∀ i, i < rs.length → i ≠ spot → (sh0.set spot num).getD i 0 < ss.getD i 0 + rs.getD i 0 := fun i hi e => by
    rw [getD_set' _ _ _ _ (by omega) e]
    exact hsh0 i (by omega)
  generalize sh0.set spot num = sh at e5 k5 b5 t5 hsl hsk hso ⊢
  generalize upd H4 D (.lst (nVs sh)) = H5 at e5 k5 b5 t5 ⊢
  clear s4 e4 k4 t4 b4 hsh0 l4 hR3 hS3 k3 b3 t3 hD nD0
  -- the counters
  dsimp only
  refine seq_asg ?_
  refine spliceL (b := r) (l := rs) (d := spot) (m := 0) (hR.kp k5 nrb) (by omega) (by omega) (fun H' Q _ q => ⟨_, rfl, q⟩) (fun H' Q _ q => ⟨_, rfl, q⟩) (fun H' Q _ q => q _ (Same.refl _)) fun H6 p6 s6 n6 e6 => ?_
  refine ⟨_, rfl, ?_⟩
  intro x dx nx n2 n3
  have rs0l : (rs.set spot 0).length = rs.length := List.length_set ..
  refine make_co e6 (by omega) (by omega) (fun z hz => Nat.le_trans (mem_set_le r4 (Nat.zero_le _) z hz) (by decide)) (.inl ⟨(hS.kp k5 nsb).same s6, by omega⟩) (fun z hz => Nat.le_trans (s2' z hz) (by decide)) x dx nx n2 n3 fun H7 s7 co7 => ⟨rfl, ?_⟩
  have k7 := k5.trans (.same (s6.trans s7))
  have b7 := b5.same (s6.trans s7)
  have t7 := tabs_same t5 (s6.trans s7)
  have e7 := e5.same (s6.trans s7)
  clear s6 e6 n6 nx n2 n3 s7 k5 b5 t5 e5
  refine spliceL (b := r) (l := rs) (d := spot) (m := 1) (hR.kp k7 nrb) (by omega) (by omega) (fun H' Q _ q => ⟨_, rfl, q⟩) (fun H' Q _ q => ⟨_, rfl, q⟩) (fun H' Q _ q => q _ (Same.refl _)) fun H8 p8 s8 n8 e8 => ?_
  refine spliceL (b := s') (l := ss) (d := spot) (m := num + 1) ((hS.kp k7 nsb).same s8) (by omega) (by omega) (fun H' Q _ q => ⟨_, rfl, q⟩) (fun H' Q _ q => ⟨_, rfl, q⟩) (fun H' Q _ q => ⟨_, rfl, rI0n (c := num + 1) rfl (q _ (Same.refl _))⟩) fun H9 p9 s9 n9 e9 => ?_
  refine ⟨_, _, rfl, ?_⟩
  have s79 := s8.trans s9
  have k9 := k7.trans (.same s79)
  have b9 := b7.same s79
  have t9 := tabs_same t7 s79
  have sh9 := e7.same s79
  have co9 := co7.same s79
  have p8e := e8.same s9
  clear s8 s9 s79 e8 n8 n9 k7 b7 t7 e7 co7
  have tt9 := hta.kp k9 hb
  have rs1l : (rs.set spot 1).length = rs.length := List.length_set ..
  have ss1l : (ss.set spot (num + 1)).length = ss.length := List.length_set ..
  -- the walk of the other counters
  refine ⟨_, rfl, _, rfl, _, rfl, _, rfl, by show 1 ≤ sizeLine; omega, fun z nz => ⟨by show 1 ≤ sizeLine; omega, fun z2 nz2 => ⟨_, rfl, ta, _, rfl, .inr (SqT.of ((Same.upd nz2) _ _ ((Same.upd nz) _ _ (k9.tup hb hta1)))), z2, _, _, rfl, rfl, upd_same, by omega, by omega, by rw [hal]; simp; omega, fun wt nwt => ?_⟩⟩⟩
  have s10 := ((Same.upd nz (o := .tup [V.int 0])).trans (Same.upd nz2 (o := .lst [.ref z]))).trans (Same.upd nwt (o := .lst (List.replicate ((((as.map V.ref).length : Nat) : Int)).toNat [V.ref z]).flatten))
  have w10 : WitAt (upd (upd (upd H9 z (.tup [V.int 0])) z2 (.lst [.ref z])) wt (.lst (List.replicate ((((as.map V.ref).length : Nat) : Int)).toNat [V.ref z]).flatten)) wt ts.length := ⟨z, by rw [upd_same, Int.toNat_natCast, hal, refs_repl], (Same.upd nwt) _ _ ((Same.upd nz2) _ _ upd_same)⟩
  refine ⟨ta, p8, p9, wt, ts, n, first, rs.set spot 1, ss.set spot (num + 1), rfl, tt9.same s10, ok, hf, p8e.same s10, e9.same s10, by omega, by omega, w10, fun H11 d l s11 nd11 Fu hl5 Op => ?_, fun H11 l s11 _ _ _ => ?_⟩
  rotate_left
  · refine ⟨_, rfl, rfl, _, rfl, iteTb rfl ?_⟩
    exact q H11 (k9.trans (.same (s10.trans s11))) (b9.same (s10.trans s11)) (tabs_same t9 (s10.trans s11))
  have s911 := s10.trans s11
  have k11 := k9.trans (.same s911)
  have b11 := b9.same s911
  have t11 := tabs_same t9 s911
  have sh11 := sh9.same s911
  have co11 := co9.same s911
  have ma11 := hma.kp k11 hb
  obtain ⟨ks, A', O11⟩ := Op.rows
  clear s10 s11 s911 w10 k9 b9 t9 sh9 co9 tt9 p8e e9 nz nz2 nwt Op
  refine ⟨_, rfl, rfl, _, rfl, iteFb rfl ?_⟩
  have hp1 : ∀ i, i < (rs.set spot 1).length → 0 < (rs.set spot 1).getD i 0 := fun i hi => by
    by_cases e : i = spot
    · subst e
      rw [getD_setS _ _ _ (by omega)]
      omega
    · rw [getD_set' _ _ _ _ (by omega) e]
      exact hpos i (by omega)
  obtain ⟨s0, hr0⟩ := reach_any (rs := rs.set spot 1) (ss := ss.set spot (num + 1)) (ts := ts) (first := first) (by omega) sh.sum sh (Nat.le_refl _) (by omega) (fun i hi => by
    by_cases e : i = spot
    · subst e
      rw [getD_setS _ _ _ (by omega), getD_setS _ _ _ (by omega), hsk]
      omega
    · rw [getD_set' _ _ _ _ (by omega) e, getD_set' _ _ _ _ (by omega) e]
      have := hso i (by omega) e
      omega) hp1
  obtain ⟨qa, sts, hv, hps, hmem⟩ := O11.get ⟨(sh, s0), (Fu.all _).mpr hr0, rfl⟩
  have hst := O11.row _ hmem
  have stn : ∀ s ∈ sts, s < n := fun s hs => Reach.lt ok hf ((Fu.all _).mp ((hst.2 s).mp hs))
  have st8 : sts.length ≤ 8 := few_states hst.1 ok.n8 stn
  have bes := fun p : Pl => beside (rs := rs) (ss := ss) (ts := ts) (first := first) (k := spot) (num := num) (sh := sh) (by omega) hs hsk (fun i hi _ => hpos i hi) p
  have iff0 : ∀ s, s ∈ sts ↔ Reach (rs.set spot 0) ss ts (some sh) first (sh, s) := fun s => by
    rw [hst.2 s, Fu.all, bes]
    exact ⟨fun h => ⟨h, by rw [hsk]; exact Nat.le_refl _⟩, fun h => h.1⟩
  -- what is due
  refine ⟨_, rfl, _, rfl, D, _, rfl, .inl ⟨LN.sq sh11, fun t nt => ?_⟩⟩
  have s12 := Same.upd nt (o := .tup (nVs sh))
  have dg : DGet (upd H11 t (.tup (nVs sh))) d (.ref t) (valV (ksV ks) (skey sh)) := DGet.t (s12 _ _ O11.at_) (by rw [upd_same, skey_kV])
  rw [hv] at dg
  obtain ⟨ps, hps1, hps2⟩ := id hps
  refine ⟨d, _, rfl, dg, qa, rfl, ⟨_, SqL.of (s12 _ _ hps1)⟩, fun D2 hD2 => lcE_list (E := E0') (J := fun _ => True) (R := fun i y _ => ∃ s, sts[i]? = some s ∧ y = nV s) hD2 (fun z => z) (by rw [List.length_map, Paired.length hps2]; omega) trivial (fun _ _ _ => trivial) (fun H' s' _ => SqL.of (s'.same _ _ (s12 _ _ hps1))) (fun _ _ _ _ _ _ e _ => e) ?_ ?_⟩
  · intro i y H13 kk hy s13 _ _ fin
    obtain ⟨a, ha, rfl⟩ := refs_back hy
    obtain ⟨s, hs', hat⟩ := paired_at' hps2 ha
    refine ⟨a, _, rfl, SqT.of (s13.same _ _ (s12 _ _ hat)), rfl, _, _, rfl, _, _, rfl, rfl, rfl, _, rfl, ?_⟩
    exact fin _ _ .refl trivial ⟨s, hs', rfl⟩
  intro H13 ys s13 _ hy ly ry
  rw [List.length_map, Paired.length hps2] at ly
  have ey := vs_eq (g := id) ly ry
  rw [List.map_id] at ey
  subst ey
  refine ⟨D2, _, rfl, .inl ⟨LN.sq hy, fun du ndu => ?_⟩⟩
  have s14 := (s12.trans s13.same).trans (Same.upd ndu (o := .tup (nVs sts)))
  have du14 : TN (upd H13 du (.tup (nVs sts))) du sts := upd_same
  generalize upd H13 du (.tup (nVs sts)) = H14 at s14 du14 ⊢
  clear s12 s13 hy ly ry dg ndu
  have O14 := O11.kp (.same s14) b11
  -- so many
  refine ⟨d, _, O14.at_, trivial, fun od => ⟨_, rfl, d, od, rfl, .inr ⟨_, upd_same, fun D3 hD3 => ?_⟩⟩⟩
  have rK : (upd H14 d (.frz od (.dT (ksV ks)))) d = some (.frz od (.dT (ksV ks))) := upd_same
  have oK : ∀ a, a ≠ d → (upd H14 d (.frz od (.dT (ksV ks)))) a = H14 a := fun a na => upd_ne na
  generalize upd H14 d (.frz od (.dT (ksV ks))) = HK at hD3 rK oK ⊢
  have nD3 : D3 ≠ d := fun z => by rw [z, rK] at hD3; cases hD3
  have oK' : ∀ a o, H14 a = some o → (∀ kv, o ≠ .dT kv) → HK a = some o := fun a o e n => by rw [oK a (ne_of e O14.at_ (n _))]; exact e
  have ksl := O14.len
  have Al : A'.length ≤ l.length := by
    have := nodup_le (A'.map (·.1)) (l.map (·.1)) O14.nd fun x hx => by
      obtain ⟨a, ha, rfl⟩ := List.mem_map.mp hx
      obtain ⟨p, hp, e⟩ := O14.non a ha
      exact List.mem_map.mpr ⟨p, hp, e⟩
    simpa using this
  have ndk : (ks.map (·.1)).Nodup := by rw [keys_eq O14.pr]; exact O14.nd
  refine lcE_gen (n := ks.length) (fun i H => Same HK H ∧ H D3 = some (.lst ((((A'.take i).filter fun a => decide (a.1.getD spot 0 ≤ num)).map fun a => (a.2.length : Int)).map V.int))) ⟨Same.upd hD3, upd_same⟩ (fun i H hi p => ⟨p.1 _ _ rK, by show i < (ksV ks).length; rw [List.length_map]; exact hi⟩) (fun H p => ⟨p.1 _ _ rK, by show (ksV ks).length ≤ ks.length; rw [List.length_map]; exact Nat.le_refl _⟩) ?_ ?_
  · rintro i x H16 H15 hi ⟨sm, eD⟩ ⟨rfl, kk, v, qk, e1, rfl, hqk⟩
    obtain ⟨kq, hkq⟩ := get_lt hi
    obtain ⟨ar, har, er, hpr⟩ := paired_at' O14.pr hkq
    have e1' : (ksV ks)[i]? = some (skey kq.1, V.ref kq.2) := by unfold ksV; rw [List.getElem?_map, hkq]; rfl
    cases e1.symm.trans e1'
    rw [skey_kV] at hqk
    have arl : ar.1.length = rs.length := by
      obtain ⟨p, hp, e⟩ := O14.non ar (List.mem_of_getElem? har)
      have := ((Fu.all p).mp hp).len
      rw [← e]
      omega
    obtain ⟨vs, hvs⟩ := get_lt (show spot < kq.1.length by rw [er]; omega)
    have tk : (A'.take (i + 1)) = A'.take i ++ [ar] := by rw [List.take_add_one, har]; rfl
    have gv : ar.1.getD spot 0 = vs := by rw [← er]; exact getD_of hvs
    refine ⟨rfl, _, rfl, _, rfl, _, _, _, _, rfl, rfl, TN.sq hqk, atI_nat (nVs_get hvs), _, rfl, _, _, rfl, rfl, _, rfl, ?_⟩
    by_cases hvn : vs ≤ num
    · refine iteDT (by omega) ?_
      have hv2 : valV (ksV ks) (skey kq.1) = some (.ref kq.2) := ks_some ndk (List.mem_of_getElem? hkq)
      have dg : DGet H15 d (.ref qk) (valV (ksV ks) (skey kq.1)) := .inr ⟨_, skey kq.1, qk, .inr ⟨od, sm _ _ rK⟩, rfl, by rw [skey_kV]; exact hqk, rfl⟩
      rw [hv2] at dg
      obtain ⟨pl, hpl1, hpl2⟩ := hpr
      refine ⟨_, rfl, _, rfl, d, _, rfl, dg, kq.2, _, rfl, .inl (SqL.of (sm _ _ (oK' _ _ hpl1 fun _ z => nomatch z))), _, eD, ?_, Same.updR sm hD3, ?_⟩
      · rw [List.length_map, List.length_map]
        have h1 := List.length_filter_le (fun a : Rw => decide (a.1.getD spot 0 ≤ num)) (A'.take i)
        rw [List.length_take] at h1
        omega
      · rw [upd_same, tk, List.filter_append, List.filter_cons, if_pos (by rw [gv]; exact decide_eq_true hvn), List.filter_nil, List.map_append, List.map_append, List.length_map, Paired.length hpl2]
        rfl
    · refine iteDF (by omega) ⟨sm, ?_⟩
      rw [tk, List.filter_append, List.filter_cons, if_neg (by rw [gv, decide_eq_false hvn]; exact Bool.false_ne_true), List.filter_nil, List.append_nil]
      exact eD
  rintro H15 ⟨sm, eD⟩
  rw [ksl, List.take_length] at eD
  refine ⟨sm _ _ rK, D3, _, rfl, SqL.of (by rw [upd_ne nD3]; exact eD), ?_⟩
  rw [sum_lens]
  have s16 : Same H14 (upd H15 d (.dT (ksV ks))) := fun a o e => by
    by_cases z : a = d
    · rw [z, O14.at_] at e
      rw [z, upd_same]
      exact e
    · rw [upd_ne z]
      exact sm a o (by rw [oK a z]; exact e)
  generalize upd H15 d (.dT (ksV ks)) = H16 at s16 ⊢
  have cnt := O14.sum fun a => decide (a.1.getD spot 0 ≤ num)
  have few0 : ∀ l2 : List Pl, l2.Nodup → (∀ p ∈ l2, Reach (rs.set spot 0) ss ts (some sh) first p) → l2.length ≤ lenP (A'.filter fun a => decide (a.1.getD spot 0 ≤ num)) := fun l2 nd re => few_places nd fun p hp => by
    obtain ⟨h1, h2⟩ := (bes p).mp (re p hp)
    have hpl := (Fu.all p).mpr h1
    obtain ⟨ar, har, e⟩ := O14.all p hpl
    exact ⟨ar, List.mem_filter.mpr ⟨har, decide_eq_true (by rw [e]; exact h2)⟩, e, ((O14.row ar har).2 p.2).mpr (by rw [e]; exact hpl)⟩
  have pos1 : 1 ≤ lenP (A'.filter fun a => decide (a.1.getD spot 0 ≤ num)) := few0 [(List.replicate (rs.set spot 0).length 0, first)] (by simp) fun p hp => by
    rw [List.mem_singleton.mp hp]
    exact .start
  generalize lenP (A'.filter fun a => decide (a.1.getD spot 0 ≤ num)) = many at cnt few0 pos1 ⊢
  clear eD sm rK oK oK' hD3 nD3
  have k16 := k11.trans (.same (s14.trans s16))
  have b16 := b11.same (s14.trans s16)
  have t16 := tabs_same t11 (s14.trans s16)
  have sh16 := sh11.same (s14.trans s16)
  have co16 := co11.same (s14.trans s16)
  have ma16 := ma11.same (s14.trans s16)
  have du16 := du14.same s16
  have shok : ShOk (rs.set spot 0) ss sh := ⟨by omega, fun i t s m ht hs' hm' => by
    have hi := (List.getElem?_eq_some_iff.mp ht).1
    by_cases e : i = spot
    · left
      subst e
      have := getD_of (d := 0) ht
      rw [getD_setS _ _ _ (by omega)] at this
      omega
    · right
      have h1 := getD_of (d := 0) ht
      rw [getD_set' _ _ _ _ (by omega) e] at h1
      have h2 := getD_of (d := 0) hs'
      have h3 := getD_of (d := 0) hm'
      have := hso i (by omega) e
      omega⟩
  have n32 : ∀ s ∈ sts, s < 32 := fun s hs => by have := stn s hs; have := ok.n8; omega
  have one0 : ∀ st2 : List Nat, st2.Pairwise (· < ·) → (∀ s, s ∈ st2 ↔ Reach (rs.set spot 0) ss ts (some sh) first (sh, s)) → st2 = sts := fun st2 pw2 m2 => sorted_eq (r := (· < ·)) (fun a => Nat.lt_irrefl a) (fun a b c => Nat.lt_trans) _ _ pw2 hst.1 fun s => (m2 s).trans (iff0 s).symm
  -- all of them are asked for
  refine ⟨_, rfl, _, rfl, _, rfl, _, rfl, _, rfl, rfl, rfl, m, x, D, ts, n, first, many, rs.set spot 0, ss, sh, rfl, ma16, ok, hf, co16, by omega, by omega, pos1, by omega, .inl sh16, shok, fun H17 p17 l2 st2 s17 Fu2 hlm hTN pw2 m2 => ?_, fun d2 H17 l2 _ _ _ nd2 re2 hlt => ?_⟩
  rotate_left
  · have := few0 l2 nd2 re2
    omega
  have est := one0 st2 pw2 m2
  subst est
  obtain ⟨ra, rb, rc, rd⟩ := repr_sh st2 n32 (by omega)
  refine ⟨p17, encSh st2, rfl, dp_tn hTN, ra, rb, rc, rd, _, rfl, du, encSh st2, rfl, dp_tn (du16.same s17), ra, rb, rc, rd, rfl, _, rfl, iteFb (by simp) ?_⟩
  have k17 := k16.trans (.same s17)
  have b17 := b16.same s17
  have t17 := tabs_same t16 s17
  -- so many at most
  refine ⟨_, rfl, b, 20, rfl, b17, by omega, by omega, fun le H18 hle s18 b18 => rI0n (c := le + 1) (congrArg V.int (by omega)) ?_⟩
  have k1718 : Kp b H17 H18 := .sx s18
  have t18 := tabs_sx t17 b17 s18
  refine ⟨t18, fun H19 ext19 t19 => ?_⟩
  have k1719 := k1718.trans (.ext ext19)
  have b19 : Bx H19 b := let ⟨x, y, e⟩ := b18; ⟨x, y, ext19 _ _ e (fun _ z => nomatch z)⟩
  have ma19 := (ma16.same s17).kp k1719 b17
  have co19 := (co16.same s17).kp k1719 b17
  have sh19 : LN H19 D sh := (sh16.same s17).kp k1719 nDb
  have du19 := (du16.same s17).kp k1719 b17
  have k19 := k17.trans k1719
  refine ⟨_, rfl, _, rfl, _, rfl, _, rfl, _, rfl, rfl, rfl, m, x, D, ts, n, first, le + 1, rs.set spot 0, ss, sh, rfl, ma19, ok, hf, co19, by omega, by omega, by omega, by omega, .inl sh19, shok, fun H20 p20 l3 st3 s20 Fu3 hlm3 hTN3 pw3 m3 => ⟨by show 2 ≤ sizeLine; omega, fun hp nhp => ?_⟩, fun d2 H20 l3 s20 nd20 hx20 nd3 re3 hlt => .inl ⟨rfl, d2, _, rfl, hx20, fun hp nhp => ?_⟩⟩
  · have est := one0 st3 pw3 m3
    subst est
    have s21 := Same.upd nhp (o := .tup [V.str "told", V.ref p20])
    refine ⟨_, rfl, _, rfl, by show 2 ≤ sizeLine; omega, fun tt ntt => ?_⟩
    have s22 := Same.upd ntt (o := .tup [V.str "told", V.ref du])
    refine ⟨toldD (encSh st3), toldD (encSh st3), .tup (SqT.of (s22 _ _ upd_same)) (.cons (.str _) (.cons (dp_tn ((hTN3.same s21).same s22)) .nil)), .tup (SqT.of upd_same) (.cons (.str _) (.cons (dp_tn (((du19.same s20).same s21).same s22)) .nil)), shaped_told (lay_sh _) (by rw [depth_sh]; decide), shaped_told (lay_sh _) (by rw [depth_sh]; decide), _, rfl, iteTb (eqv_told (eqv_sh1 _)) ?_⟩
    exact q _ (k19.trans (.same ((s20.trans s21).trans s22))) (b19.same ((s20.trans s21).trans s22)) (tabs_same t19 ((s20.trans s21).trans s22))
  · have hmany := few0 l3 nd3 re3
    have s21 := Same.upd nhp (o := .tup [V.str "great", nV (le + 1), V.bl true])
    refine ⟨_, rfl, _, rfl, by show 2 ≤ sizeLine; omega, fun tt ntt => ?_⟩
    have s22 := Same.upd ntt (o := .tup [V.str "told", V.ref du])
    refine ⟨greatD (le + 1), toldD (encSh st2), .tup (SqT.of (s22 _ _ upd_same)) (.cons (.str _) (.cons (.int _) (.cons (.bl _) .nil))), .tup (SqT.of upd_same) (.cons (.str _) (.cons (dp_tn (((du19.same s20).same s21).same s22)) .nil)), shaped_great _, shaped_told (lay_sh _) (by rw [depth_sh]; decide), _, rfl, iteFb (eqv_mix _ _) ?_⟩
    refine ⟨_, rfl, _, rfl, by show 3 ≤ sizeLine; omega, fun t3 nt3 => ?_⟩
    have s23 := Same.upd nt3 (o := .tup [V.str "great", nV (le + 1), V.bl true])
    refine ⟨greatD (le + 1), greatD (le + 1), .tup (SqT.of (s23 _ _ (s22 _ _ upd_same))) (.cons (.str _) (.cons (.int _) (.cons (.bl _) .nil))), .tup (SqT.of upd_same) (.cons (.str _) (.cons (.int _) (.cons (.bl _) .nil))), shaped_great _, shaped_great _, _, rfl, iteTb (eqv_great _) ?_⟩
    refine ⟨_, rfl, _, rfl, _, _, rfl, rfl, ?_⟩
    have s24 := ((s20.trans s21).trans s22).trans s23
    have e : decide ((((le + 1 : Nat) : Int)) < ((many : Nat) : Int)) = true := decide_eq_true (by omega)
    show Q (V.bl (decide ((((le + 1 : Nat) : Int)) < ((many : Nat) : Int)))) _
    rw [e]
    exact q _ (k19.trans (.same s24)) (b19.same s24) (tabs_same t19 s24)
end
end Ow

/-! ## M9 -/
set_option Elab.async false
set_option linter.all false
set_option maxRecDepth 100000
/-! Limits that limit nothing; full counters have few places -/
namespace Ow
open PySem
section
variable {rs ss ss' : List Nat} {ts : List (List Nat)} {first : Nat}
theorem reach_lim {sh : List Nat} (h : ∀ i, i < rs.length → 0 < rs.getD i 0) (p : Pl) : Reach rs ss ts (some sh) first p ↔ Reach rs ss ts none first p := by
  have lim : ∀ x, inLim rs (some sh) x = true := fun x => by
    unfold inLim
    simp only [List.all_eq_true, List.mem_range]
    intro i hi
    rw [decide_eq_true (h i hi), Bool.true_or]
  constructor
  · intro r
    induction r with
    | start => exact .start
    | step d _ hd _ ih => exact .step d ih hd rfl
  · intro r
    induction r with
    | start => exact .start
    | step d _ hd _ ih => exact .step d ih hd (lim _)
theorem cnt_ss {k : Nat} {p : Pl} (h : Reach (List.replicate k 0) ss ts none first p) : Reach (List.replicate k 0) ss' ts none first p := by
  induction h with
  | start => exact .start
  | @step p d _ hd _ ih =>
    have e : succP (List.replicate k 0) ss ts p d = succP (List.replicate k 0) ss' ts p d := by
      unfold succP
      rw [next0, next0]
    rw [e]
    exact .step d ih hd rfl
theorem few_led {ns : List Nat} {n : Nat} {l : List Pl} (ok : TbOk ts n) (hf : first < n) (h3 : ∀ m ∈ ns, m ≤ 3) (nd : l.Nodup) (h : ∀ p ∈ l, Reach (List.replicate ts.length 0) ss ts (some ns) first p) : l.length ≤ 2048 := by
  have h1 := nodup_le l ((rowsT ns ts.length).flatMap fun row => (List.range 8).map fun s => (row, s)) nd fun p hp => by
    obtain ⟨hc, hle⟩ := cnt_lim.mp (h p hp)
    have hl := cnt_len hc
    have hs : p.2 < n := Reach.lt ok hf (h p hp)
    have := ok.n8
    exact List.mem_flatMap.mpr ⟨p.1, mem_rowsT.mpr ⟨hl, hle⟩, List.mem_map.mpr ⟨p.2, List.mem_range.mpr (by omega), rfl⟩⟩
  have h2 := flat_len (fun row : List Nat => (List.range 8).map fun s => (row, s)) 8 (rowsT ns ts.length) fun x _ => by simp
  have h4 := rowsT_len h3 ts.length
  have h5 : 4 ^ ts.length ≤ 256 := Nat.le_trans (Nat.pow_le_pow_right (by decide) ok.four) (by decide)
  omega
end
end Ow

/-! ## W24 -/
set_option Elab.async false
set_option linter.all false
set_option maxRecDepth 100000
set_option maxHeartbeats 32000000
/-! _law_one_right -/
namespace Ow
open PySem PySem.Spec PyProof.Rows L2 LamX
section
variable {K : PySem.W.Frag} {D : Addr} {g : TG} {te : TE} {vs : List Nat} {σ : L2.St} {H1 : Hp} {Qd : Hp → Prop}
theorem lcE_genY {I0 : It} {n : Nat} (Iv : Nat → Hp → Prop) (h0 : Iv 0 (upd H1 D (.lst []))) (hgo : ∀ i H, i < n → Iv i H → I0.go i H) (hst : ∀ H, Iv n H → I0.stop n H)
    (hs : ∀ i x H H', i < n → Iv i H → I0.yld i H x H' → g x (wipe σ vs) H' fun σ2 H2 => wipe σ2 vs = wipe σ vs ∧ te σ2 H2 fun y H4 => ∃ acc, H4 D = some (.lst acc) ∧ acc.length < sizeLine ∧ Iv (i + 1) (upd H4 D (.lst (acc ++ [y])))) (hd : ∀ H, Iv n H → Qd H) :
    ∃ W : Nat → Nat → Hp → Prop, (∃ m, W 0 m (upd H1 D (.lst []))) ∧ ∀ i m H, W i m H →
      (I0.stop i H ∧ Qd H) ∨ (I0.go i H ∧ ∃ Nx : Hp → Prop, (∀ H', Nx H' → ∃ m', m' < m ∧ W (i + 1) m' H') ∧ ∀ x H', I0.yld i H x H' → g x (wipe σ vs) H' fun σ2 H2 => wipe σ2 vs = wipe σ vs ∧ tYes σ2 H2 fun b H3 =>
        if b = true then te σ2 H3 fun y H4 => ∃ acc, H4 D = some (.lst acc) ∧ acc.length < sizeLine ∧ Nx (upd H4 D (.lst (acc ++ [y]))) else Nx H3) := by
  refine ⟨fun i m H => m = n - i ∧ i ≤ n ∧ Iv i H, ⟨n, by simp, Nat.zero_le _, h0⟩, ?_⟩
  rintro i m H ⟨rfl, hi, iv⟩
  by_cases hlt : i < n
  · exact .inr ⟨hgo i H hlt iv, Iv (i + 1), fun H' p' => ⟨n - (i + 1), by omega, rfl, hlt, p'⟩, fun x H' y => hs i x H H' hlt iv y⟩
  · have e : i = n := by omega
    subst e
    exact .inl ⟨hst H iv, hd H iv⟩
end
section
variable {P : Program} {w : World} {K : PySem.W.Frag} {mg : Str → Option Value} {base : Heap} {cC cM cT cG cR cF cB cN cW TT0 : Addr}
def spOneR (cM : Addr) (TT : List (Addr × Str)) : Sp := fun vs H Q _ => ∃ (b m ta r s d : Addr) (ts : List (List Nat)) (n first : Nat) (rs ss : List Nat) (l : List Pl), vs = [.ref b, .ref m, .ref ta, nV first, .ref r, .ref s, .ref d] ∧ Bx H b ∧ MaAt cM H m ts n ∧ TT2 H ta ts ∧ TbOk ts n ∧ first < n ∧ LN H r rs ∧ LN H s ss ∧ r ≠ b ∧ s ≠ b ∧ rs.length = ts.length ∧ ss.length = rs.length ∧
  (∀ i, i < rs.length → 0 < rs.getD i 0) ∧ (∀ x ∈ rs, x ≤ 4) ∧ (∀ x ∈ ss, x ≤ 2) ∧ Full rs ss ts none first l ∧ l.length ≤ 5000 ∧ Opened H d l ∧ Tabs TT H ∧ ∀ H', Kp b H H' → Bx H' b → Tabs TT H' → Q (.bl true) H'
theorem ok_law_one_right {f c Pt : Addr} {fd : FuncData} {TT : List (Addr × Str)} (F : FunC K "_law_one_right" s_law_one_right f fd c) (T : Tx mg) (C_law_heard : ClH K mg) (hk : Hk K mg cF cB cG cR cN cW cC cM) (TB : TabB base mg c Pt) (hmT : (Pt, lamQ "_law_one_right" (defScope s_law_one_right)) ∈ TT) (hu : ∀ p ∈ TT, p.1 = Pt → p.2 = lamQ "_law_one_right" (defScope s_law_one_right)) (hE : EmptyT K TT0)
    (C_law_take : Cl P w K mg base CX0 1 "_law_take" ["_law_box_here", "_law_many"] (spTake) [])
    (C_law_led : Cl P w K mg base CX0 1 "_law_led" ["_law_tables_here", "_law_first", "_law_numbers"] spLed [])
    (C_law_beside_right : ClG P w K mg base CX0 12 "_law_beside_right" ["_law_box_here", "_law_machine", "_law_tables_here", "_law_first", "_law_rounds", "_law_rests"] (spBeside cM TT))
    (C_Counters : ClM P w K mg base CX0 4 "Counters" cC ["self", "rounds", "rests"] (spCo K cC) [])
    (C_Counters1 : ClM P w K mg base CX0 4 "Counters" cC ["self", "rounds", "rests"] (spCo K cC) [.ref TT0])
    (C_open_lot : ClK P w K mg base (L2.CX P w) 7 "open_lot" ["machine", "first", "counters", "showing", "most"] 4 ["most"] gApp (spLot cC cM cG))
    (C_open_lot0 : ClK P w K mg base (L2.CX P w) 7 "open_lot" ["machine", "first", "counters", "showing", "most"] 0 ["most", "showing", "counters", "first", "machine"] (fun _ zs => zs.reverse) (spLot cC cM cG))
    (C_open_lots : ClK P w K mg base (L2.CX P w) 7 "open_lots" ["machine", "first", "counters", "most"] 3 ["most"] gApp (spLots cC cM cG cR))
    (C_needed_values : ClK P w K mg base (L2.CX P w) 8 "needed_values" ["machine", "first", "counters", "most"] 3 ["most"] gApp (spNeed cC cM cG cR)) : FnG P w K mg base CX0 13 f fd ["_law_box_here", "_law_machine", "_law_tables_here", "_law_first", "_law_rounds", "_law_rests", "_law_opened_here"] (spOneR cM TT) := by
  refine funG F c_law_one_right (fun vs H Q E h => ?_) (fun A outer s H vs Q E hgd hr h => ?_)
  · obtain ⟨b, m, ta, r, s', d, ts, n, first, rs, ss, l, rfl, _⟩ := h
    rfl
  have hgd' : (A.deeper (envOfC "_law_one_right" (defScope s_law_one_right) s.heap.objs.size f (.ref c))).guards = some [] := hgd
  obtain ⟨b, m, ta, r, s', d, ts, n, first, rs, ss, l, rfl, hb, hma, hta, ok, hf, hR, hS, nrb, nsb, hl, hs, hpos, r4, s2', Fu, hl5, Op, hT, q⟩ := h
  refine ⟨_, pss_cons (ps_setLc (i := 7) (own := [("_law_turn", 14), ("_law_rest", 15)]) (g := gTup K 2 (gCons (gName 14) (gCons (gName 15) (gNil)))) (tt := tYes) rfl c_law_one_right.nd rfl rfl (sw_true rfl rfl rfl (by decide +kernel)) (pi_zip (by rfl) T.n_zip (pa_cons (pv 4) (pa_cons (pv 5) (pa_nil)))) (blkOk_by (by kernel_rfl)) (fun _ _ _ _ _ => pg_tup rfl (pgs_cons (pg_name (i := 14) c_law_one_right.nd rfl (by first | exact Or.inl rfl | exact Or.inr rfl)) (pgs_cons (pg_name (i := 15) c_law_one_right.nd rfl (by first | exact Or.inl rfl | exact Or.inr rfl)) (pgs_nil)))) (fun _ _ _ _ _ => pts_nil) (fun _ _ _ _ _ => pe_cl C_law_take (hr.mono (by decide)) pass0 rfl (pa_cons (pv 0) (pa_cons (pe_op op_add (pe_op op_add (pv 15) (pv 14)) (pe_int)) (pa_nil)))))
  (pss_cons (ps_set (i := 8) c_law_one_right.nd rfl (Or.inl rfl) (pe_callTy (T := "tuple") (r := rTupOf K) call_tuple_of (by rfl) T.n_tuple (by decide +kernel) (pa_cons (pe_lc (own := [("_law_state", 16), ("_law_standing", 17)]) (g := gTup K 2 (gCons (gName 16) (gCons (gName 17) (gNil)))) (tt := tYes) rfl c_law_one_right.nd (pi_listK K (pe_dget2 (hu_of hr) (pv 6) (pe_callTy (T := "tuple") (r := rTupOf K) call_tuple_of (by rfl) T.n_tuple (by decide +kernel) (pa_cons (pv 7) (pa_nil))) (pe_lst (pa_nil)) (by exact ⟨rfl, rfl, rfl, rfl⟩))) (blkOk_by (by kernel_rfl)) (fun _ _ _ _ _ => pg_tup rfl (pgs_cons (pg_name (i := 16) c_law_one_right.nd rfl (by first | exact Or.inl rfl | exact Or.inr rfl)) (pgs_cons (pg_name (i := 17) c_law_one_right.nd rfl (by first | exact Or.inl rfl | exact Or.inr rfl)) (pgs_nil)))) (fun _ _ _ _ _ => pts_nil) (fun _ _ _ _ _ => pv 16)) (pa_nil))))
  (pss_cons (ps_set (i := 9) c_law_one_right.nd rfl (Or.inr rfl) (pe_clM C_Counters (hr.mono (by decide)) pass0 rfl (pa_cons (pv 4) (pa_cons (pv 5) (pa_nil)))))
  (pss_cons (ps_if (pt_cmpR op_ne (pe_callB (cr_repr hgd hr.units) (by rfl) T.n_repr (by decide +kernel) (pa_cons (pe_clK C_open_lot (hr.mono (by decide)) passNo rfl (pa_cons (pv 1) (pa_cons (pv 3) (pa_cons (pv 9) (pa_cons (pv 7) (pa_nil))))) (pk_cons (pe_int) (pk_nil))) (pa_nil))) (pe_callB (cr_repr hgd hr.units) (by rfl) T.n_repr (by decide +kernel) (pa_cons (pv 8) (pa_nil))) (nomark _)) (pss_one (ps_ret (pe_bl)))
    (pss_nil))
  (pss_cons (ps_set (i := 10) c_law_one_right.nd rfl (Or.inl rfl) (pe_callB (cr_sum rfl) (by rfl) T.n_sum (by decide +kernel) (pa_cons (pe_lock (pe_lc (own := [("_law_one", 18)]) (g := gName 18) (tt := tYes) rfl c_law_one_right.nd (pi_keys (pv 6)) (blkOk_by (by kernel_rfl)) (fun _ _ _ _ _ => pg_name (i := 18) c_law_one_right.nd rfl (by first | exact Or.inl rfl | exact Or.inr rfl)) (fun _ _ _ _ _ => pts_nil) (fun _ _ _ _ _ => pe_callB (id := "len") (r := rLenOf K) call_len_seq (by rfl) T.n_len (by decide +kernel) (pa_cons (pe_dget (hu_of hr) (pv 6) (pv 18) (fun _ _ => rfl)) (pa_nil))))) (pa_nil))))
  (pss_cons (ps_if (pt_cmpR (op_neD hr.units) (pe_clK0 C_open_lot0 (hr.mono (by decide)) passNo rfl (pk_cons (pv 10) (pk_cons (pe_callTy (T := "tuple") (r := rTupOf K) call_tuple_of (by rfl) T.n_tuple (by decide +kernel) (pa_cons (pv 7) (pa_nil))) (pk_cons (pv 9) (pk_cons (pv 3) (pk_cons (pv 1) (pk_nil))))))) (pv 8) (nomark _)) (pss_one (ps_ret (pe_bl)))
    (pss_nil))
  (pss_cons (ps_if (pt_not (pt_val (pe_clG C_law_beside_right hgd (hr.mono (by decide)) pass0 rfl (pa_cons (pv 0) (pa_cons (pv 1) (pa_cons (pv 2) (pa_cons (pv 3) (pa_cons (pv 4) (pa_cons (pv 5) (pa_nil)))))))))) (pss_one (ps_ret (pe_bl)))
    (pss_nil))
  (pss_cons (ps_set (i := 11) c_law_one_right.nd rfl (Or.inl rfl) (pe_op op_rep (pe_lst (pa_cons (pe_int) (pa_nil))) (pe_callB (id := "len") (r := rLenOf K) call_len_seq (by rfl) T.n_len (by decide +kernel) (pa_cons (pv 2) (pa_nil)))))
  (pss_cons (ps_setLc (i := 12) (own := [("_law_deed", 19)]) (g := gName 19) (tt := tYes) rfl c_law_one_right.nd rfl rfl (sw_true rfl rfl rfl (by decide +kernel)) (pi_listK K (pv 11)) (blkOk_by (by kernel_rfl)) (fun _ _ _ _ _ => pg_name (i := 19) c_law_one_right.nd rfl (by first | exact Or.inl rfl | exact Or.inr rfl)) (fun _ _ _ _ _ => pts_nil) (fun _ _ _ _ _ => pe_cl C_law_take (hr.mono (by decide)) pass0 rfl (pa_cons (pv 0) (pa_cons (pe_ifExp (pt_cmpR op_lt (pe_callB (id := "len") (r := rLenOf K) call_len_seq (by rfl) T.n_len (by decide +kernel) (pa_cons (pv 2) (pa_nil))) (pe_int) (nomark _)) (pe_int) (pe_int)) (pa_nil)))))
  (pss_cons (ps_if (pt_cmpR op_ne (pe_callB (cr_repr hgd hr.units) (by rfl) T.n_repr (by decide +kernel) (pa_cons (pe_clK C_open_lot (hr.mono (by decide)) passNo rfl (pa_cons (pv 1) (pa_cons (pv 3) (pa_cons (pe_clM C_Counters1 (hr.mono (by decide)) pass0 rfl (pa_cons (pv 11) (pa_nil))) (pa_cons (pv 12) (pa_nil))))) (pk_cons (pe_int) (pk_nil))) (pa_nil))) (pe_callB (cr_repr hgd hr.units) (by rfl) T.n_repr (by decide +kernel) (pa_cons (pe_cl C_law_led (hr.mono (by decide)) pass0 rfl (pa_cons (pv 2) (pa_cons (pv 3) (pa_cons (pv 12) (pa_nil))))) (pa_nil))) (nomark _)) (pss_one (ps_ret (pe_bl)))
    (pss_nil))
  (pss_cons (ps_set (i := 9) c_law_one_right.nd rfl (Or.inr rfl) (pe_clM C_Counters (hr.mono (by decide)) pass0 rfl (pa_cons (pe_op op_cat (pe_lst (pa_cons (pe_int) (pa_nil))) (pe_callTy call_list_of (by rfl) T.n_list (by decide +kernel) (pa_cons (pe_slice sl_list (pv 4) (po_some (pe_int)) (po_none)) (pa_nil)))) (pa_cons (pv 5) (pa_nil)))))
  (pss_cons (ps_set (i := 13) c_law_one_right.nd rfl (Or.inl rfl) (pe_heard (k := 8) C_law_heard T hk (hr.mono (by decide)) TB hmT hu (fun _ _ _ _ _ _ _ hr => pe_clK C_open_lots (hr.mono (by decide)) (passX (takes_of rfl rfl rfl rfl) (fun _ _ _ _ h => h)) rfl (pa_cons (pv 1) (pa_cons (pv 3) (pa_cons (pv 9) (pa_nil)))) (pk_cons (pe_int) (pk_nil)))))
  (pss_one (ps_ret (pe_and (pe_cmpR (op_eqT hr.units) (pv 13) (pe_tup (pa_cons (pe_str) (pa_cons (pv 9) (pa_cons (pe_bl) (pa_nil))))) (nomark _)) (pe_one (pe_cmpR (op_eqT hr.units) (pe_heard (k := 8) C_law_heard T hk (hr.mono (by decide)) TB hmT hu (fun _ _ _ _ _ _ _ hr => pe_clK C_needed_values (hr.mono (by decide)) (passX (takes_of rfl rfl rfl rfl) (fun _ _ _ _ h => h)) rfl (pa_cons (pv 1) (pa_cons (pv 3) (pa_cons (pv 9) (pa_nil)))) (pk_cons (pe_int) (pk_nil)))) (pv 13) (nomark _))))))))))))))))), ?_⟩
  have hz : sizeLine = 16777216 := sizeLine_eq
  have one := ok.one
  have four := ok.four
  obtain ⟨as, hta1, hta2⟩ := id hta
  have hal : (as.map V.ref).length = ts.length := by rw [List.length_map]; exact Paired.length hta2
  obtain ⟨ks, A', O⟩ := Op.rows
  have tk0 : ∀ i, i < rs.length → ss.getD i 0 + rs.getD i 0 ≤ 6 := fun i _ => by
    have := mem_getD (i := i) r4
    have := mem_getD (i := i) s2'
    omega
  -- the showing
  refine ⟨_, rfl, _, rfl, r, s', _, _, rfl, LN.sq hR, LN.sq hS, fun D hD => lcE_it (E := fun z => z = b) (J := fun H => Bx H b) (n := rs.length) (R := fun i y _ => ∃ d, d < ss.getD i 0 + rs.getD i 0 ∧ y = nV d) (fun i x H' => ∃ T, x = .ref T ∧ H' T = some (.tup [nV (rs.getD i 0), nV (ss.getD i 0)])) hD (fun z => (hb.ne hD) z.symm) (by omega) hb (fun H o j => j.ne_upd (hb.ne hD)) (fun _ _ _ _ _ _ e _ => e) ?_ ?_ ?_ ?_ ?_⟩
  · intro i H4 hi s4 _
    obtain ⟨x, hx⟩ := get_lt hi
    obtain ⟨y, hy⟩ := get_lt (show i < ss.length by omega)
    exact ⟨_, _, _, _, LN.sq (s4 _ _ nrb hR), LN.sq (s4 _ _ nsb hS), nVs_get hx, nVs_get hy⟩
  · intro H4 s4 _
    exact ⟨_, _, LN.sq (s4 _ _ nrb hR), LN.sq (s4 _ _ nsb hS), .inl (by rw [nVs_len]; exact Nat.le_refl _)⟩
  · rintro i H4 x H5 hi s4 j4 ⟨T', x', y', rfl, nT, rfl, ex, ey⟩
    obtain ⟨x, hx⟩ := get_lt hi
    obtain ⟨y, hy⟩ := get_lt (show i < ss.length by omega)
    have e1 := ex _ (LN.sq (s4 _ _ nrb hR))
    have e2 := ey _ (LN.sq (s4 _ _ nsb hS))
    rw [nVs_get hx] at e1
    rw [nVs_get hy] at e2
    cases e1
    cases e2
    exact ⟨.of (Same.upd nT), j4.same (Same.upd nT), T', rfl, by rw [upd_same, getD_of hx, getD_of hy]⟩
  · rintro i x H4 kk hi ⟨T', rfl, hT'⟩ s4 j4 _ fin
    refine ⟨T', _, rfl, SqT.of hT', rfl, _, _, rfl, _, _, rfl, rfl, rfl, _, rfl, _, rfl, _, rfl, rI0n (c := ss.getD i 0 + rs.getD i 0) rfl ?_⟩
    refine ⟨_, _, rfl, rfl, ?_⟩
    have := hpos i hi
    have := tk0 i hi
    exact ⟨b, ss.getD i 0 + rs.getD i 0, rfl, j4, by omega, by omega, fun d H5 hd s5 b5 => fin _ _ s5 b5 ⟨d, hd, rfl⟩⟩
  intro H5 ys s4 b5 e5 l4 ry
  obtain ⟨sh, rfl, hso⟩ := nats_of' (f := fun i => ss.getD i 0 + rs.getD i 0) ry
  rw [nVs_len] at l4
  have hsl : sh.length = rs.length := l4
  have nDb : D ≠ b := fun z => (hb.ne hD) z.symm
  have k5 : Kp b H H5 := .sx s4
  have t5 := tabs_sx hT hb s4
  have e5' : LN H5 D sh := e5
  have O5 := O.kp k5 hb
  clear s4 hD l4 ry e5
  obtain ⟨s0, hr0⟩ := reach_any (rs := rs) (ss := ss) (ts := ts) (first := first) hl.symm sh.sum sh (Nat.le_refl _) hsl (fun i hi => by have := hso i (by omega); omega) hpos
  obtain ⟨qa, sts, hv, hps, hmem⟩ := O5.get ⟨(sh, s0), (Fu.all _).mpr hr0, rfl⟩
  have hst := O5.row _ hmem
  have stn : ∀ s ∈ sts, s < n := fun s hs => Reach.lt ok hf ((Fu.all _).mp ((hst.2 s).mp hs))
  have st8 : sts.length ≤ 8 := few_states hst.1 ok.n8 stn
  have iff0 : ∀ s, s ∈ sts ↔ Reach rs ss ts (some sh) first (sh, s) := fun s => by rw [hst.2 s, Fu.all, reach_lim hpos]
  have one0 : ∀ st2 : List Nat, st2.Pairwise (· < ·) → (∀ s, s ∈ st2 ↔ Reach rs ss ts (some sh) first (sh, s)) → st2 = sts := fun st2 pw2 m2 => sorted_eq (r := (· < ·)) (fun a => Nat.lt_irrefl a) (fun a b c => Nat.lt_trans) _ _ pw2 hst.1 fun s => (m2 s).trans (iff0 s).symm
  have n32 : ∀ s ∈ sts, s < 32 := fun s hs => by have := stn s hs; have := ok.n8; omega
  obtain ⟨rpa, rpb, rpc, rpd⟩ := repr_sh sts n32 (by omega)
  have shok : ShOk rs ss sh := ⟨hsl, fun i t s m ht hs' hm' => by
    right
    have hi := (List.getElem?_eq_some_iff.mp ht).1
    have h1 := getD_of (d := 0) ht
    have h2 := getD_of (d := 0) hs'
    have h3 := getD_of (d := 0) hm'
    have := hso i (by omega)
    omega⟩
  -- what is due
  refine ⟨_, rfl, d, rfl, .inr ⟨_, .inl O5.at_⟩, _, rfl, D, _, rfl, .inl ⟨LN.sq e5', fun t nt => ?_⟩⟩
  have s12 := Same.upd nt (o := .tup (nVs sh))
  have dg : DGet (upd H5 t (.tup (nVs sh))) d (.ref t) (valV (ksV ks) (skey sh)) := DGet.t (s12 _ _ O5.at_) (by rw [upd_same, skey_kV])
  rw [hv] at dg
  obtain ⟨ps, hps1, hps2⟩ := id hps
  refine ⟨by show 0 ≤ sizeLine; omega, fun z nz => ?_⟩
  have s12' := s12.trans (Same.upd nz (o := .lst []))
  have dg' : DGet (upd (upd H5 t (.tup (nVs sh))) z (.lst [])) d (.ref t) (some (.ref qa)) := by
    have := DGet.t (k := skey sh) (s12' _ _ O5.at_) (show (upd (upd H5 t (.tup (nVs sh))) z (.lst [])) t = some (.tup ((skey sh).map kV)) by rw [skey_kV]; exact (Same.upd nz) _ _ upd_same)
    rw [hv] at this
    exact this
  refine ⟨_, dg', qa, rfl, ⟨_, SqL.of (s12' _ _ hps1)⟩, fun D2 hD2 => lcE_list (xs := ps.map V.ref) (E := E0') (J := fun _ => True) (R := fun i y _ => ∃ s, sts[i]? = some s ∧ y = nV s) hD2 (fun z => z) (by rw [List.length_map, Paired.length hps2]; omega) trivial (fun _ _ _ => trivial) (fun H' s' _ => SqL.of (s'.same _ _ (s12' _ _ hps1))) (fun _ _ _ _ _ _ e _ => e) ?_ ?_⟩
  · intro i y H13 kk hy s13 _ _ fin
    obtain ⟨a, ha, rfl⟩ := refs_back hy
    obtain ⟨s, hs', hat⟩ := paired_at' hps2 ha
    refine ⟨a, _, rfl, SqT.of (s13.same _ _ (s12' _ _ hat)), rfl, _, _, rfl, _, _, rfl, rfl, rfl, _, rfl, ?_⟩
    exact fin _ _ .refl trivial ⟨s, hs', rfl⟩
  intro H13 ys s13 _ hy ly ry
  rw [List.length_map, Paired.length hps2] at ly
  have ey := vs_eq (g := id) ly ry
  rw [List.map_id] at ey
  subst ey
  refine ⟨D2, _, rfl, .inl ⟨LN.sq hy, fun du ndu => ?_⟩⟩
  have s14 := (s12'.trans s13.same).trans (Same.upd ndu (o := .tup (nVs sts)))
  have du14 : TN (upd H13 du (.tup (nVs sts))) du sts := upd_same
  generalize upd H13 du (.tup (nVs sts)) = H14 at s14 du14 ⊢
  clear s12 s12' s13 hy ly ry dg dg' ndu nz nt hps hps1 hps2 hD2
  have k14 := k5.trans (.same s14)
  have b14 := b5.same s14
  have t14 := tabs_same t5 s14
  have sh14 := e5'.same s14
  have O14 := O5.kp (.same s14) b5
  clear k5 b5 t5 e5' O5 s14
  -- the counters
  refine ⟨_, rfl, _, rfl, ?_⟩
  intro x dx nx n2 n3
  refine make_co (hR.kp k14 nrb) (by omega) (by omega) (fun z hz => Nat.le_trans (r4 z hz) (by decide)) (.inl ⟨hS.kp k14 nsb, by omega⟩) (fun z hz => Nat.le_trans (s2' z hz) (by decide)) x dx nx n2 n3 fun H15 s15 co15 => ⟨rfl, ?_⟩
  have k15 := k14.trans (.same s15)
  have b15 := b14.same s15
  have t15 := tabs_same t14 s15
  have sh15 := sh14.same s15
  have du15 := du14.same s15
  have O15 := O14.kp (.same s15) b14
  have ma15 := hma.kp k15 hb
  clear s15 k14 b14 t14 sh14 du14 O14 nx n2 n3
  have few5 : ∀ l2 : List Pl, l2.Nodup → (∀ p ∈ l2, Reach rs ss ts (some sh) first p) → l2.length ≤ l.length := fun l2 nd re => nodup_le l2 l nd fun p hp => (Fu.all p).mpr ((reach_lim hpos p).mp (re p hp))
  refine ⟨_, rfl, _, rfl, _, rfl, _, rfl, rfl, rfl, m, x, D, ts, n, first, 5000, rs, ss, sh, rfl, ma15, ok, hf, co15, hl, hs, by omega, by omega, .inl sh15, shok, fun H17 p17 l2 st2 s17 Fu2 hlm hTN pw2 m2 => ?_, fun d2 H17 l2 _ _ _ nd2 re2 hlt => ?_⟩
  rotate_left
  · have := few5 l2 nd2 re2
    omega
  have est := one0 st2 pw2 m2
  subst est
  refine ⟨p17, encSh st2, rfl, dp_tn hTN, rpa, rpb, rpc, rpd, _, rfl, du, encSh st2, rfl, dp_tn (du15.same s17), rpa, rpb, rpc, rpd, rfl, _, rfl, iteFb (by simp) ?_⟩
  have k17 := k15.trans (.same s17)
  have b17 := b15.same s17
  have t17 := tabs_same t15 s17
  have sh17 := sh15.same s17
  have du17 := du15.same s17
  have O17 := O15.kp (.same s17) b15
  have ma17 := ma15.same s17
  have co17 := co15.same s17
  clear s17 k15 b15 t15 sh15 du15 O15 ma15 co15 hTN Fu2 hlm p17
  -- so many
  refine ⟨d, _, O17.at_, trivial, fun od => ⟨_, rfl, d, od, rfl, .inr ⟨_, upd_same, fun D3 hD3 => ?_⟩⟩⟩
  have rK : (upd H17 d (.frz od (.dT (ksV ks)))) d = some (.frz od (.dT (ksV ks))) := upd_same
  have oK : ∀ a, a ≠ d → (upd H17 d (.frz od (.dT (ksV ks)))) a = H17 a := fun a na => upd_ne na
  generalize upd H17 d (.frz od (.dT (ksV ks))) = HK at hD3 rK oK ⊢
  have nD3 : D3 ≠ d := fun z => by rw [z, rK] at hD3; cases hD3
  have oK' : ∀ a o, H17 a = some o → (∀ kv, o ≠ .dT kv) → HK a = some o := fun a o e n => by rw [oK a (ne_of e O17.at_ (n _))]; exact e
  have ksl := O17.len
  have Al : A'.length ≤ l.length := by
    have := nodup_le (A'.map (·.1)) (l.map (·.1)) O17.nd fun x hx => by
      obtain ⟨a, ha, rfl⟩ := List.mem_map.mp hx
      obtain ⟨p, hp, e⟩ := O17.non a ha
      exact List.mem_map.mpr ⟨p, hp, e⟩
    simpa using this
  have ndk : (ks.map (·.1)).Nodup := by rw [keys_eq O17.pr]; exact O17.nd
  refine lcE_genY (n := ks.length) (fun i H => Same HK H ∧ H D3 = some (.lst (((A'.take i).map fun a => (a.2.length : Int)).map V.int))) ⟨Same.upd hD3, upd_same⟩ (fun i H hi p => ⟨p.1 _ _ rK, by show i < (ksV ks).length; rw [List.length_map]; exact hi⟩) (fun H p => ⟨p.1 _ _ rK, by show (ksV ks).length ≤ ks.length; rw [List.length_map]; exact Nat.le_refl _⟩) ?_ ?_
  · rintro i y H16 H15 hi ⟨sm, eD⟩ ⟨rfl, kk, v, qk, e1, rfl, hqk⟩
    obtain ⟨kq, hkq⟩ := get_lt hi
    obtain ⟨ar, har, er, hpr⟩ := paired_at' O17.pr hkq
    have e1' : (ksV ks)[i]? = some (skey kq.1, V.ref kq.2) := by unfold ksV; rw [List.getElem?_map, hkq]; rfl
    cases e1.symm.trans e1'
    have tk : (A'.take (i + 1)) = A'.take i ++ [ar] := by rw [List.take_add_one, har]; rfl
    have hv2 : valV (ksV ks) (skey kq.1) = some (.ref kq.2) := ks_some ndk (List.mem_of_getElem? hkq)
    have dg : DGet H15 d (.ref qk) (valV (ksV ks) (skey kq.1)) := .inr ⟨_, skey kq.1, qk, .inr ⟨od, sm _ _ rK⟩, rfl, hqk, rfl⟩
    rw [hv2] at dg
    obtain ⟨pl, hpl1, hpl2⟩ := hpr
    refine ⟨rfl, _, rfl, _, rfl, d, _, rfl, dg, kq.2, _, rfl, .inl (SqL.of (sm _ _ (oK' _ _ hpl1 fun _ z => nomatch z))), _, eD, ?_, Same.updR sm hD3, ?_⟩
    · rw [List.length_map, List.length_map, List.length_take]
      omega
    · rw [upd_same, tk, List.map_append, List.map_append, List.length_map, Paired.length hpl2]
      rfl
  rintro H15 ⟨sm, eD⟩
  rw [ksl, List.take_length] at eD
  refine ⟨sm _ _ rK, D3, _, rfl, SqL.of (by rw [upd_ne nD3]; exact eD), ?_⟩
  rw [sum_lens]
  have s18 : Same H17 (upd H15 d (.dT (ksV ks))) := fun a o e => by
    by_cases z : a = d
    · rw [z, O17.at_] at e
      rw [z, upd_same]
      exact e
    · rw [upd_ne z]
      exact sm a o (by rw [oK a z]; exact e)
  generalize upd H15 d (.dT (ksV ks)) = H18 at s18 ⊢
  have cnt : lenP A' ≤ l.length := many_places O17.nd (fun q hq => (O17.row q hq).1.imp fun h => Nat.ne_of_lt h) fun q hq s hs => ((O17.row q hq).2 s).mp hs
  have few0 : ∀ l2 : List Pl, l2.Nodup → (∀ p ∈ l2, Reach rs ss ts (some sh) first p) → l2.length ≤ lenP A' := fun l2 nd re => few_places nd fun p hp => by
    have hpl := (Fu.all p).mpr ((reach_lim hpos p).mp (re p hp))
    obtain ⟨ar, har, e⟩ := O17.all p hpl
    exact ⟨ar, har, e, ((O17.row ar har).2 p.2).mpr (by rw [e]; exact hpl)⟩
  have pos1 : 1 ≤ lenP A' := few0 [(List.replicate rs.length 0, first)] (by simp) fun p hp => by
    rw [List.mem_singleton.mp hp]
    exact .start
  generalize lenP A' = many at cnt few0 pos1 ⊢
  have k18 := k17.trans (.same s18)
  have b18 := b17.same s18
  have t18 := tabs_same t17 s18
  have sh18 := sh17.same s18
  have du18 := du17.same s18
  have ma18 := ma17.same s18
  have co18 := co17.same s18
  clear eD sm rK oK oK' hD3 nD3 s18 k17 b17 t17 sh17 du17 O17 ma17 co17
  -- asked by name
  refine ⟨_, rfl, _, rfl, D, _, rfl, .inl ⟨LN.sq sh18, fun t nt => ?_⟩⟩
  have s19 := Same.upd nt (o := .tup (nVs sh))
  refine ⟨_, rfl, _, rfl, _, rfl, rfl, rfl, m, x, t, ts, n, first, many, rs, ss, sh, rfl, ma18.same s19, ok, hf, co18.same s19, hl, hs, pos1, by omega, .inr upd_same, shok, fun H20 p20 l2 st3 s20 Fu2 hlm hTN pw3 m3 => ?_, fun d2 H17 l2 _ _ _ nd2 re2 hlt => ?_⟩
  rotate_left
  · have := few0 l2 nd2 re2
    omega
  have est := one0 st3 pw3 m3
  subst est
  have s1920 := s19.trans s20
  refine ⟨_, rfl, encSh st3, encSh st3, dp_tn hTN, dp_tn (du18.same s1920), shaped_of (lay_sh _) (by rw [depth_sh]; decide), shaped_of (lay_sh _) (by rw [depth_sh]; decide), _, rfl, iteFb (by rw [eqv_sh1]; rfl) ?_⟩
  have k20 := k18.trans (.same s1920)
  have b20 := b18.same s1920
  have t20 := tabs_same t18 s1920
  clear hTN Fu2 hlm s1920 s19 s20 k18 b18 t18 sh18 du18 ma18 co18 nt
  -- beside
  refine ⟨_, rfl, _, rfl, _, rfl, _, rfl, _, rfl, _, rfl, b, m, ta, r, s', ts, n, first, rs, ss, rfl, b20, hma.kp k20 hb, hta.kp k20 hb, ok, hf, hR.kp k20 nrb, hS.kp k20 nsb, nrb, nsb, hl, hs, hpos, r4, s2', t20, fun H21 k2021 b21 t21 => ⟨_, rfl, iteFb rfl ?_⟩⟩
  have k21 := k20.trans k2021
  clear k20 b20 t20 k2021
  -- full counters
  have ta21 := k21.tup hb hta1
  refine ⟨by show 1 ≤ sizeLine; omega, fun z nz => ⟨_, rfl, ta, _, rfl, .inr (SqT.of ((Same.upd nz) _ _ ta21)), z, _, _, rfl, rfl, upd_same, by omega, by omega, by rw [hal]; simp; omega, fun fu nfu => ?_⟩⟩
  have s22 := (Same.upd nz (o := .lst [V.int 0])).trans (Same.upd nfu (o := .lst (List.replicate ((((as.map V.ref).length : Nat) : Int)).toNat [V.int 0]).flatten))
  have fu22 : LN (upd (upd H21 z (.lst [V.int 0])) fu (.lst (List.replicate ((((as.map V.ref).length : Nat) : Int)).toNat [V.int 0]).flatten)) fu (List.replicate ts.length 0) := by
    show _ = _
    rw [upd_same, Int.toNat_natCast, hal, flat_zero]
  have nfb : fu ≠ b := fun e => by
    have hx := b21.same (Same.upd nz (o := .lst [V.int 0]))
    exact (hx.ne nfu) e.symm
  generalize upd (upd H21 z (.lst [V.int 0])) fu (.lst (List.replicate ((((as.map V.ref).length : Nat) : Int)).toNat [V.int 0]).flatten) = H22 at s22 fu22 ⊢
  have k22 := k21.trans (.same s22)
  have b22 := b21.same s22
  have t22 := tabs_same t21 s22
  have ta22 := s22 _ _ ta21
  clear s22 nz nfu k21 b21 t21 ta21
  -- the numbers
  refine ⟨_, rfl, fu, rfl, ⟨_, LN.sq fu22⟩, fun D4 hD4 => lcE_list (xs := nVs (List.replicate ts.length 0)) (E := fun z => z = b) (J := fun H => Bx H b) (R := fun i y _ => ∃ d, d < 4 ∧ y = nV d) hD4 (fun z => (b22.ne hD4) z.symm) (by rw [nVs_len, List.length_replicate]; omega) b22 (fun H o j => j.ne_upd (b22.ne hD4)) (fun H' s' _ => LN.sq (s' _ _ nfb fu22)) (fun _ _ _ _ _ _ e _ => e) ?_ ?_⟩
  · intro i y H23 kk hy s23 j23 _ fin
    have ta23 : H23 ta = some (.tup (as.map V.ref)) := s23 _ _ (let ⟨_, _, e⟩ := b22; lst_ne_tup e ta22) ta22
    refine ⟨rfl, _, rfl, _, rfl, ta, _, rfl, .inr (SqT.of ta23), _, _, rfl, rfl, _, rfl, ite2 (fun _ => ?_) fun _ => ?_⟩
    · exact ⟨b, 4, rfl, j23, by omega, by omega, fun d H24 hd s24 b24 => fin _ _ s24 b24 ⟨d, hd, rfl⟩⟩
    · exact ⟨b, 3, rfl, j23, by omega, by omega, fun d H24 hd s24 b24 => fin _ _ s24 b24 ⟨d, by omega, rfl⟩⟩
  intro H23 ys23 s23 b23 e23 l23 ry23
  obtain ⟨ns, rfl, hns⟩ := nats_of ry23
  rw [nVs_len, nVs_len, List.length_replicate] at l23
  have hn3 : ∀ z ∈ ns, z ≤ 3 := fun z hz => by have := hns z hz; omega
  have e23' : LN H23 D4 ns := e23
  have k23 := k22.trans (.sx s23)
  have t23 := tabs_sx t22 b22 s23
  have fu23 : LN H23 fu (List.replicate ts.length 0) := s23 _ _ nfb fu22
  have nD4b : D4 ≠ b := fun z => (b22.ne hD4) z.symm
  clear s23 k22 t22 fu22 ta22 hD4 e23 ry23 b22
  refine ⟨_, rfl, _, rfl, _, rfl, ?_⟩
  intro x2 dx2 nx2 n22 n32'
  refine make_co fu23 (by rw [List.length_replicate]; omega) (by rw [List.length_replicate]; omega) (fun z hz => by rw [(List.mem_replicate.mp hz).2]; decide) (ss := List.replicate ts.length 0) (.inr ⟨hE, by rw [List.length_replicate]⟩) (fun z hz => by rw [(List.mem_replicate.mp hz).2]; decide) x2 dx2 nx2 n22 n32' fun H24 s24 co24 => ⟨rfl, ?_⟩
  have k24 := k23.trans (.same s24)
  have b24 := b23.same s24
  have t24 := tabs_same t23 s24
  have nn24 := e23'.same s24
  clear s24 k23 t23 b23 fu23 e23' nx2 n22 n32'
  have shok2 : ShOk (List.replicate ts.length 0) (List.replicate ts.length 0) ns := ⟨by rw [List.length_replicate]; exact l23, fun i t s m ht _ _ => .inl (by
    have := List.mem_of_getElem? ht
    exact (List.mem_replicate.mp this).2)⟩
  refine ⟨_, rfl, rfl, rfl, m, x2, D4, ts, n, first, 5000, List.replicate ts.length 0, List.replicate ts.length 0, ns, rfl, hma.kp k24 hb, ok, hf, co24, by rw [List.length_replicate], rfl, by omega, by omega, .inl nn24, shok2, fun H25 p25 l2 st4 s25 Fu2 hlm hTN pw4 m4 => ?_, fun d2 H17 l2 _ _ _ nd2 re2 hlt => ?_⟩
  rotate_left
  · have := few_led ok hf hn3 nd2 re2
    omega
  have st4n : ∀ s ∈ st4, s < n := fun s hs => Reach.lt ok hf ((m4 s).mp hs)
  have n4 : st4.length ≤ 8 := few_states pw4 ok.n8 st4n
  obtain ⟨ra, rb, rc, rd⟩ := repr_sh st4 (fun s hs => by have := st4n s hs; have := ok.n8; omega) (by omega)
  have k25 := k24.trans (.same s25)
  refine ⟨p25, encSh st4, rfl, dp_tn hTN, ra, rb, rc, rd, ?_⟩
  refine ⟨_, rfl, _, rfl, _, rfl, ta, D4, ts, n, first, ns, rfl, hta.kp k25 hb, ok, hf, nn24.same s25, l23, hn3, fun H26 p26 st5 s26 hTN5 pw5 m5 => ?_⟩
  have est : st5 = st4 := sorted_eq (r := (· < ·)) (fun a => Nat.lt_irrefl a) (fun a b c => Nat.lt_trans) _ _ pw5 pw4 fun s => by
    rw [m5 s, m4 s, cnt_lim]
    exact ⟨fun h => ⟨cnt_ss h, fun _ _ => Nat.le_refl _⟩, fun h => cnt_ss h.1⟩
  subst est
  refine ⟨p26, encSh st5, rfl, dp_tn hTN5, ra, rb, rc, rd, rfl, _, rfl, iteFb (by simp) ?_⟩
  have k26 := k25.trans (.same s26)
  have b26 := b24.same (s25.trans s26)
  have t26 := tabs_same t24 (s25.trans s26)
  clear k25 k24 b24 t24 s25 s26 hTN hTN5 nn24 co24 Fu2 hlm
  -- refused
  unfold tNext
  dsimp only
  refine seq_asg ?_
  refine ⟨by show 1 ≤ sizeLine; omega, fun z nz => ⟨_, rfl, _, rfl, r, _, rfl, LN.sq ((hR.kp k26 nrb).same (Same.upd nz)), fun p1 np1 => ⟨p1, _, rfl, .inl (SqL.of upd_same), fun p2 np2 => ?_⟩⟩⟩
  have s27 := ((Same.upd nz (o := .lst [V.int 0])).trans (Same.upd np1 (o := .lst (cutV (nVs rs) (some 1) none)))).trans (Same.upd np2 (o := .lst (cutV (nVs rs) (some 1) none)))
  have e27 : LN (upd (upd (upd H26 z (.lst [V.int 0])) p1 (.lst (cutV (nVs rs) (some 1) none))) p2 (.lst (cutV (nVs rs) (some 1) none))) p2 (rs.drop 1) := by
    show _ = _
    rw [upd_same, show (some (1 : Int)) = some (((1 : Nat)) : Int) from rfl, cut_from]
  have z27 : (upd (upd (upd H26 z (.lst [V.int 0])) p1 (.lst (cutV (nVs rs) (some 1) none))) p2 (.lst (cutV (nVs rs) (some 1) none))) z = some (.lst [V.int 0]) := (Same.upd np2) _ _ ((Same.upd np1) _ _ upd_same)
  generalize upd (upd (upd H26 z (.lst [V.int 0])) p1 (.lst (cutV (nVs rs) (some 1) none))) p2 (.lst (cutV (nVs rs) (some 1) none)) = H27 at s27 e27 z27 ⊢
  refine ⟨z, p2, _, _, rfl, rfl, z27, e27, by rw [nVs_len, List.length_drop]; simp; omega, fun p3 np3 => ⟨_, rfl, ?_⟩⟩
  have s28 := s27.trans (Same.upd np3 (o := .lst ([V.int 0] ++ nVs (rs.drop 1))))
  have e28 : LN (upd H27 p3 (.lst ([V.int 0] ++ nVs (rs.drop 1)))) p3 (0 :: rs.drop 1) := upd_same
  generalize upd H27 p3 (.lst ([V.int 0] ++ nVs (rs.drop 1))) = H28 at s28 e28 ⊢
  have rl : (0 :: rs.drop 1).length = rs.length := by
    rw [List.length_cons, List.length_drop]
    omega
  intro x3 dx3 nx3 n23 n33
  refine make_co e28 (by omega) (by omega) (fun w hw => by
    rcases List.mem_cons.mp hw with e | e
    · rw [e]; decide
    · exact Nat.le_trans (r4 w (List.mem_of_mem_drop e)) (by decide)) (.inl ⟨(hS.kp k26 nsb).same s28, by omega⟩) (fun w hw => Nat.le_trans (s2' w hw) (by decide)) x3 dx3 nx3 n23 n33 fun H29 s29 co29 => ⟨rfl, ?_⟩
  have k29 := k26.trans (.same (s28.trans s29))
  have b29 := b26.same (s28.trans s29)
  have t29 := tabs_same t26 (s28.trans s29)
  clear s27 e27 z27 s28 e28 s29 nx3 n23 n33 nz np1 np2 k26 b26 t26
  have zin : 0 ∈ 0 :: rs.drop 1 := List.mem_cons_self
  refine ⟨t29, fun H30 ext30 t30 => ?_⟩
  have k2930 : Kp b H29 H30 := .ext ext30
  have b30 : Bx H30 b := let ⟨x, y, e⟩ := b29; ⟨x, y, ext30 _ _ e (fun _ z => nomatch z)⟩
  have co30 := co29.kp k2930 b29
  have k30 := k29.trans k2930
  clear t29 k2930 ext30 co29 b29 k29
  refine ⟨_, rfl, _, rfl, _, rfl, rfl, rfl, m, x3, ts, n, first, 5, 0 :: rs.drop 1, ss, rfl, hma.kp k30 hb, ok, hf, co30, by omega, by omega, by omega, by omega, fun h0 => absurd zin h0, fun _ d3 H31 s31 nd31 e31 => .inr ⟨rfl, ?_⟩⟩
  obtain ⟨cdx, ca, cb, hc1, hc2, hc3⟩ := id co30
  refine ⟨d3, x3, cdx, _, rfl, e31, s31 _ _ hc1, fun H32 p32 s32 e32 => ?_⟩
  have s3032 := s31.trans s32
  have k32 := k30.trans (.same s3032)
  have b32 := b30.same s3032
  have t32 := tabs_same t30 s3032
  have co32 := co30.same s3032
  clear s31 s32 s3032 k30 b30 t30 co30 hc1 hc2 hc3 nd31 e31
  refine ⟨_, rfl, _, rfl, by show 3 ≤ sizeLine; omega, fun t nt => ?_⟩
  have s33 := Same.upd nt (o := .tup [V.str "refused", V.ref x3, V.bl true])
  have flat : ∀ v ∈ [V.str "refused", V.ref x3, V.bl true], flatB v = true ∨ ∃ c, v = .ref c := fun v hv => by
    rcases List.mem_cons.mp hv with e | hv
    · rw [e]; exact .inl rfl
    · rcases List.mem_cons.mp hv with e | hv
      · rw [e]; exact .inr ⟨_, rfl⟩
      · rw [List.mem_singleton.mp hv]; exact .inl rfl
  refine ⟨p32, t, [V.str "refused", V.ref x3, V.bl true], rfl, rfl, SqT.of (s33 _ _ e32), SqT.of upd_same, flat, _, rfl, iteTb rfl ?_⟩
  have e33 := s33 _ _ e32
  have k33 := k32.trans (.same s33)
  have b33 := b32.same s33
  have t33 := tabs_same t32 s33
  have co33 := co32.same s33
  generalize upd H32 t (.tup [V.str "refused", V.ref x3, V.bl true]) = H33 at e33 k33 b33 t33 co33 ⊢
  clear s33 k32 b32 t32 co32 e32 nt
  refine ⟨t33, fun H34 ext34 t34 => ?_⟩
  have k3334 : Kp b H33 H34 := .ext ext34
  have b34 : Bx H34 b := let ⟨x, y, e⟩ := b33; ⟨x, y, ext34 _ _ e (fun _ z => nomatch z)⟩
  have co34 := co33.kp k3334 b33
  have e34 := k3334.tup b33 e33
  have k34 := k33.trans k3334
  refine ⟨_, rfl, _, rfl, _, rfl, rfl, rfl, m, x3, ts, n, first, 5, 0 :: rs.drop 1, ss, rfl, hma.kp k34 hb, ok, hf, co34, by omega, by omega, by omega, by omega, fun h0 => absurd zin h0, fun _ d3 H35 s35 nd35 e35 => .inr ⟨rfl, ?_⟩⟩
  obtain ⟨cdx, ca, cb, hc1, hc2, hc3⟩ := id co34
  refine ⟨d3, x3, cdx, _, rfl, e35, s35 _ _ hc1, fun H36 p36 s36 e36 => ?_⟩
  have s3436 := s35.trans s36
  refine ⟨_, rfl, p36, p32, [V.str "refused", V.ref x3, V.bl true], rfl, rfl, SqT.of e36, SqT.of (s3436 _ _ e34), flat, ?_⟩
  exact q _ (k34.trans (.same s3436)) (b34.same s3436) (tabs_same t34 s3436)
end
end Ow

/-! ## W25a -/
set_option Elab.async false
set_option linter.all false
set_option maxRecDepth 100000
set_option maxHeartbeats 16000000
/-! what is due, as law reads it -/
namespace Ow
open PySem PySem.Spec PyProof.Rows L2 LamX
section
variable {K : PySem.W.Frag}
theorem due_read {v0 v1 v2 v3 v4 v5 v6 v7 v8 v10 v11 v12 v13 v14 v15 v16 v17 v18 v19 v20 : Option V} {H : Hp} {d : Addr} {l : List Pl} {ks : List (List Nat × Addr)} {A' : List Rw} {Q : VK} (O : OpL H d l ks A') (hl : l.length ≤ 5000) (h8 : ∀ a ∈ A', a.1 ≠ [] ∧ a.2.length ≤ 8)
    (q : ∀ H' p L, Same H H' → LotsAt H' p L → Lots (fun p => p ∈ l) L → (∀ x ∈ L, x ∈ A') → L.length ≤ l.length → Q (.ref p) H') :
    tCB (rTupOf K) (tCons (tLc (iList K (tCB (rSortK encSh K) (tCons (tVar 9) tNil))) (gName 17) tYes (tTup (tCons (tVar 17) (tCons (tCB (rTupOf K) (tCons (tLc (iList K (tDGet (tVar 9) (tVar 17))) (gTup K 2 (gCons (gName 18) (gCons (gName 19) gNil))) tYes (tVar 18) [18, 19]) tNil)) tNil))) [17]) tNil)
      [v0, v1, v2, v3, v4, v5, v6, v7, v8, some (.ref d), v10, v11, v12, v13, v14, v15, v16, v17, v18, v19, v20] H Q := by
  have hz : sizeLine = 16777216 := sizeLine_eq
  have ksl := O.len
  have Al : A'.length ≤ l.length := by
    have := nodup_le (A'.map (·.1)) (l.map (·.1)) O.nd fun x hx => by
      obtain ⟨a, ha, rfl⟩ := List.mem_map.mp hx
      obtain ⟨p, hp, e⟩ := O.non a ha
      exact List.mem_map.mpr ⟨p, hp, e⟩
    simpa using this
  have ndk : (ks.map (·.1)).Nodup := by rw [keys_eq O.pr]; exact O.nd
  refine ⟨_, rfl, d, ksV ks, ks.map (·.1), TNs H, rfl, .inl O.at_, fun ps isk => ?_, fun x sh hx => ?_, ⟨PySem.W.AllAlike.of fun a b => alike_sh a b, sortable_shs fun b hb z => ?_, fun b _ => by rw [depth_sh]; decide, by rw [List.length_map]; omega⟩, fun p ys np pys => ?_⟩
  · have h1 : Paired (fun (q : List Nat × Addr) b => TN H b q.1) ks ps := Paired.mapP (paired_mapL (f := fun q : List Nat × Addr => (skey q.1, V.ref q.2)) isk) fun q b e => by
      have e' : H b = some (.tup ((skey q.1).map kV)) := e
      rw [skey_kV] at e'
      exact e'
    refine paired_of_get (by rw [List.length_map, List.length_map, Paired.length h1]) fun j x y hx hy => ?_
    obtain ⟨b, hb, rfl⟩ := refs_back hx
    rw [List.getElem?_map] at hy
    obtain ⟨kq, hkq, hbq⟩ := paired_at h1 hb
    rw [hkq] at hy
    cases hy
    exact ⟨b, rfl, hbq⟩
  · obtain ⟨b, rfl, hb⟩ := hx
    exact dp_tn hb
  · rw [keys_eq O.pr] at hb
    obtain ⟨a, ha, e⟩ := List.mem_map.mp hb
    exact (h8 a ha).1 (e.trans z)
  have srt := sort_shs (ks.map (·.1)) ndk
  have pm := List.mergeSort_perm (ks.map (·.1)) (PySem.W.dataLe false encSh)
  generalize (ks.map (·.1)).mergeSort (PySem.W.dataLe false encSh) = S at pys srt pm
  have Sl : S.length = ks.length := by rw [pm.length_eq, List.length_map]
  have ysl : ys.length = S.length := Paired.length pys
  have s1 : Same H (upd H p (.lst ys)) := Same.upd np
  have p1 : (upd H p (.lst ys)) p = some (.lst ys) := upd_same
  have pys1 := Paired.mapP pys fun _ _ z => z.same s1
  generalize upd H p (.lst ys) = H1 at s1 p1 pys1 ⊢
  refine ⟨p, rfl, ⟨_, SqL.of p1⟩, fun D hD => lcE_list (xs := ys) (E := E0') (J := fun _ => True) (R := fun i y H' => ∃ a q, y = .ref a ∧ S[i]? = some q.1 ∧ RowAt H' a q ∧ q ∈ A') hD (fun z => z) (by omega) trivial (fun _ _ _ => trivial) (fun H2 s2 _ => SqL.of (s2.same _ _ p1)) ?_ ?_ ?_⟩
  · rintro i v H3 H4 _ ⟨zs, hzs⟩ ⟨a, qq, e1, e2, e3, e4⟩ w34
    exact ⟨a, qq, e1, e2, e3.keep fun a xs e => w34 _ _ (fun z => by
      rcases z with z | z
      · exact z
      · rw [z, hzs] at e; cases e) e, e4⟩
  · intro i x H3 kk hx s3 _ _ fin
    obtain ⟨sh, hsh, sa, rfl, hsa⟩ := paired_at' pys1 hx
    have hsa3 := hsa.same s3.same
    have O3 : OpL H3 d l ks A' := ⟨s3.same _ _ (s1 _ _ O.at_), Paired.mapP O.pr fun _ _ ⟨z1, z2⟩ => ⟨z1, (z2.same s1).same s3.same⟩, O.nd, O.row, O.all, O.non⟩
    have hin : sh ∈ A'.map (·.1) := by rw [← keys_eq O.pr]; exact pm.mem_iff.mp (List.mem_of_getElem? hsh)
    obtain ⟨a, ha, rfl⟩ := List.mem_map.mp hin
    obtain ⟨p0, hp0, e0⟩ := O.non a ha
    obtain ⟨qa, sts, hv, hps, hmem⟩ := O3.get ⟨p0, hp0, e0⟩
    have st8 : sts.length ≤ 8 := (h8 _ hmem).2
    obtain ⟨ps, hps1, hps2⟩ := hps
    have dg : DGet H3 d (.ref sa) (valV (ksV ks) (skey a.1)) := DGet.t O3.at_ (by rw [skey_kV]; exact hsa3)
    rw [hv] at dg
    refine ⟨rfl, _, rfl, _, rfl, _, rfl, d, _, rfl, dg, qa, rfl, ⟨_, SqL.of hps1⟩, fun D2 hD2 => lcE_list (xs := ps.map V.ref) (E := E0') (J := fun _ => True) (R := fun i y _ => ∃ s, sts[i]? = some s ∧ y = nV s) hD2 (fun z => z) (by rw [List.length_map, Paired.length hps2]; omega) trivial (fun _ _ _ => trivial) (fun H' s' _ => SqL.of (s'.same _ _ hps1)) (fun _ _ _ _ _ _ e _ => e) ?_ ?_⟩
    · intro i y H13 kk hy s13 _ _ fin
      obtain ⟨a, ha, rfl⟩ := refs_back hy
      obtain ⟨s, hs', hat⟩ := paired_at' hps2 ha
      refine ⟨a, _, rfl, SqT.of (s13.same _ _ hat), rfl, _, _, rfl, _, _, rfl, rfl, rfl, _, rfl, ?_⟩
      exact fin _ _ .refl trivial ⟨s, hs', rfl⟩
    intro H13 zs s13 _ hy ly ry
    rw [List.length_map, Paired.length hps2] at ly
    have ey := vs_eq (g := id) ly ry
    rw [List.map_id] at ey
    subst ey
    refine ⟨D2, _, rfl, .inl ⟨LN.sq hy, fun du ndu => ⟨by show 2 ≤ sizeLine; omega, fun t nt => ?_⟩⟩⟩
    have s14 := s13.same.trans ((Same.upd ndu (o := .tup (nVs sts))).trans (Same.upd nt (o := .tup [V.ref sa, V.ref du])))
    exact fin _ _ (.of s14) trivial ⟨t, (a.1, sts), rfl, hsh, ⟨sa, du, upd_same, hsa3.same s14, (Same.upd nt) _ _ upd_same⟩, hmem⟩
  intro H3 zs s3 _ hy ly ry
  obtain ⟨L, lL, hL⟩ := exists_list (Q := fun i (y : V) (b : Rw) => ∃ a, y = .ref a ∧ S[i]? = some b.1 ∧ RowAt H3 a b ∧ b ∈ A') fun i y hyi => by
    obtain ⟨a, qq, e1, e2, e3, e4⟩ := ry i y hyi
    exact ⟨qq, a, e1, e2, e3, e4⟩
  refine ⟨D, _, rfl, .inl ⟨SqL.of hy, fun t nt => ?_⟩⟩
  have get2 : ∀ (j : Nat) (x : Rw), L[j]? = some x → ∃ y, zs[j]? = some y := fun j x hx => by
    have := (List.getElem?_eq_some_iff.mp hx).1
    exact get_lt (show j < zs.length by omega)
  have inA : ∀ x ∈ L, x ∈ A' := fun x hx => by
    obtain ⟨j, hj⟩ := List.mem_iff_getElem?.mp hx
    obtain ⟨y, hy'⟩ := get2 j x hj
    obtain ⟨_, _, _, _, h⟩ := hL j y x hy' hj
    exact h
  obtain ⟨as, las, has⟩ := exists_list (Q := fun i (y : V) (a : Addr) => y = .ref a ∧ ∀ b, L[i]? = some b → RowAt H3 a b) (ys := zs) fun i y hyi => by
    obtain ⟨a, qq, e1, e2, e3, e4⟩ := ry i y hyi
    obtain ⟨bb, hbb⟩ := get_lt (show i < L.length by have := (List.getElem?_eq_some_iff.mp hyi).1; omega)
    obtain ⟨a2, e5, _, e6, _⟩ := hL i y bb hyi hbb
    exact ⟨a2, e5, fun b hb => by rw [hbb] at hb; cases hb; exact e6⟩
  have ez : zs = as.map V.ref := by
    apply List.ext_getElem?
    intro j
    rw [List.getElem?_map]
    by_cases hj : j < zs.length
    · obtain ⟨y, hy'⟩ := get_lt hj
      obtain ⟨a, ha⟩ := get_lt (show j < as.length by omega)
      rw [hy', ha, (has j y a hy' ha).1]
      rfl
    · rw [List.getElem?_eq_none (by omega), List.getElem?_eq_none (by omega)]
      rfl
  have pr : Paired (RowAt H3) as L := paired_of_get (by omega) fun j x y e1 e2 => by
    obtain ⟨z, hz'⟩ := get2 j y e2
    exact (has j z x hz' e1).2 y e2
  have keysL : L.map (·.1) = S := by
    apply List.ext_getElem?
    intro j
    rw [List.getElem?_map]
    by_cases hj : j < L.length
    · obtain ⟨x, hx⟩ := get_lt hj
      obtain ⟨y, hy'⟩ := get2 j x hx
      obtain ⟨_, _, e, _⟩ := hL j y x hy' hx
      rw [hx, e]
      rfl
    · rw [List.getElem?_eq_none (by omega), List.getElem?_eq_none (by omega)]
      rfl
  have s4 := (s1.trans s3.same).trans (Same.upd nt (o := .tup zs))
  refine q _ t L s4 ⟨as, by rw [upd_same, ez], Paired.mapP pr fun _ _ z => z.keep fun _ _ e => (Same.upd nt) _ _ e⟩ ⟨?_, fun x hx => (O.row x (inA x hx)).1, fun x hx e => ?_, fun x hx s => (O.row x (inA x hx)).2 s, fun p hp => ?_⟩ inA (by omega)
  · rw [← keysL] at srt
    exact List.pairwise_map.mp srt
  · obtain ⟨p0, hp0, e0⟩ := O.non x (inA x hx)
    have := ((O.row x (inA x hx)).2 p0.2).mpr (by rw [← e0]; exact hp0)
    rw [e] at this
    cases this
  · obtain ⟨a, ha, e⟩ := O.all p hp
    have : a.1 ∈ L.map (·.1) := by
      rw [keysL, pm.mem_iff, keys_eq O.pr]
      exact List.mem_map.mpr ⟨a, ha, rfl⟩
    obtain ⟨x, hx, e2⟩ := List.mem_map.mp this
    exact ⟨x, hx, e2.trans e⟩
end
end Ow

/-! ## W25b -/
set_option Elab.async false
set_option linter.all false
set_option maxRecDepth 100000
set_option maxHeartbeats 4000000
/-! facts that the law's body leans on -/
namespace Ow
open PySem PySem.Spec PyProof.Rows L2 LamX
theorem shAs_lt {t s m : Nat} (h : 0 < t) : shAs t s m < s + t := by
  unfold shAs
  split
  · rename_i h'
    omega
  · have := Nat.mod_lt (m - s) h
    omega
section
variable {rs ss : List Nat} {ts : List (List Nat)} {lim : Option (List Nat)} {first : Nat}
theorem reach_bd (hp : ∀ i, i < rs.length → 0 < rs.getD i 0) {p : Pl} (h : Reach rs ss ts lim first p) : ∀ i, i < rs.length → p.1.getD i 0 < ss.getD i 0 + rs.getD i 0 := by
  induction h with
  | start =>
    intro i hi
    have := hp i hi
    show (List.replicate _ 0).getD i 0 < _
    rw [rep0]
    omega
  | @step p d hr hd _ ih =>
    intro i hi
    have hpl := hr.len
    show (nextSh rs ss p.1 d).getD i 0 < _
    unfold nextSh
    by_cases e : i = d
    · subst e
      rw [getD_setS _ _ _ (by omega)]
      exact shAs_lt (hp i hi)
    · rw [List.getD_eq_getElem?_getD, List.getElem?_set_ne (fun z => e z.symm), ← List.getD_eq_getElem?_getD]
      exact ih i hi
end
/-- what a row of all that is opened looks like -/
def RwOk (a : Rw) : Prop := a.1 ≠ [] ∧ a.1.length ≤ 4 ∧ a.2.length ≤ 8 ∧ (∀ n ∈ a.1, n < 32) ∧ ∀ n ∈ a.2, n < 32
section
variable {rs ss : List Nat} {ts : List (List Nat)} {first n : Nat} {H : Hp} {d : Addr} {l : List Pl} {ks : List (List Nat × Addr)} {A' : List Rw}
theorem op_rows (ok : TbOk ts n) (hf : first < n) (hl : rs.length = ts.length) (hpos : ∀ i, i < rs.length → 0 < rs.getD i 0) (r4 : ∀ x ∈ rs, x ≤ 4) (s2 : ∀ x ∈ ss, x ≤ 2) (Fu : Full rs ss ts none first l) (O : OpL H d l ks A') : ∀ a ∈ A', RwOk a := fun a ha => by
  have one := ok.one
  have four := ok.four
  have n8 := ok.n8
  obtain ⟨p, hp, e⟩ := O.non a ha
  have re := (Fu.all p).mp hp
  have len := re.len
  rw [e] at len
  have st : ∀ s ∈ a.2, s < n := fun s hs => Reach.lt ok hf ((Fu.all _).mp (((O.row a ha).2 s).mp hs))
  refine ⟨fun z => ?_, by omega, few_states (O.row a ha).1 n8 st, fun m hm => ?_, fun m hm => by have := st m hm; omega⟩
  · rw [z] at len
    have : (0 : Nat) = rs.length := len
    omega
  · obtain ⟨i, hi⟩ := List.mem_iff_getElem?.mp hm
    have hi2 := (List.getElem?_eq_some_iff.mp hi).1
    have b := reach_bd hpos re i (by omega)
    rw [e, getD_of hi] at b
    have := mem_getD (i := i) r4
    have := mem_getD (i := i) s2
    omega
theorem op_few (O : OpL H d l ks A') : A'.length ≤ l.length := by
  have := nodup_le (A'.map (·.1)) (l.map (·.1)) O.nd fun x hx => by
    obtain ⟨a, ha, rfl⟩ := List.mem_map.mp hx
    obtain ⟨p, hp, e⟩ := O.non a ha
    exact List.mem_map.mpr ⟨p, hp, e⟩
  simpa using this
theorem op_cnt (O : OpL H d l ks A') : lenP A' ≤ l.length := many_places O.nd (fun q hq => (O.row q hq).1.imp fun h => Nat.ne_of_lt h) fun q hq s hs => ((O.row q hq).2 s).mp hs
theorem op_room (Fu : Full rs ss ts none first l) (O : OpL H d l ks A') : ∀ l2 : List Pl, l2.Nodup → (∀ p ∈ l2, Reach rs ss ts none first p) → l2.length ≤ lenP A' := fun l2 nd re => few_places nd fun p hp => by
  have hpl := (Fu.all p).mpr (re p hp)
  obtain ⟨ar, har, e⟩ := O.all p hpl
  exact ⟨ar, har, e, ((O.row ar har).2 p.2).mpr (by rw [e]; exact hpl)⟩
theorem op_pos (Fu : Full rs ss ts none first l) (O : OpL H d l ks A') : 1 ≤ lenP A' := op_room Fu O [(List.replicate rs.length 0, first)] (by simp) fun p hp => by
  rw [List.mem_singleton.mp hp]
  exact .start
/-- the lots that are told are those that are due -/
theorem op_one {L L' : List Rw} (Fu : Full rs ss ts none first l) (h : Lots (fun p => p ∈ l) L) (h' : Lots (Reach rs ss ts none first) L') : L' = L :=
  Lots.one h' ⟨h.srt, h.inr, h.non, fun q hq s => (h.mem q hq s).trans (Fu.all _), fun p hp => h.all p ((Fu.all p).mpr hp)⟩
theorem op_repr {L : List Rw} (h : ∀ a ∈ A', RwOk a) (hL : ∀ x ∈ L, x ∈ A') (hz : L.length ≤ 7000) : ReprOk (lotsD L) := repr_lots L (fun q hq => let ⟨_, h2, h3, h4, h5⟩ := h q (hL q hq); ⟨h2, h3, h4, h5⟩) hz
end
theorem log_small : ∀ g : Nat, g < 9 → ((g : Nat) : Int).natAbs.log2 < 1920 := by decide
/-- the two greatest are one -/
theorem great_one {L : List Rw} {g g' : Nat} (h1 : ∃ q ∈ L, q.2.length = g) (h2 : ∀ q ∈ L, q.2.length ≤ g) (h1' : ∃ q ∈ L, q.2.length = g') (h2' : ∀ q ∈ L, q.2.length ≤ g') : g' = g := by
  obtain ⟨q, hq, e⟩ := h1
  obtain ⟨q', hq', e'⟩ := h1'
  have := h2 q' hq'
  have := h2' q hq
  omega
/-- what is heard: the same told, or that there was too much to look at -/
def Heard (K : PySem.W.Frag) (H : Hp) (p : Addr) (d : PyData) (le many : Nat) : Prop := (∃ u, H p = some (.tup [.str "told", u]) ∧ ∀ H', Same H H' → Dp K H' u d) ∨ (H p = some (.tup [.str "great", nV le, .bl true]) ∧ le < many)
theorem heard_if {K : PySem.W.Frag} {σ : L2.St} {H : Hp} {p : Addr} {d : PyData} {v : V} {le many j : Nat} {Q : Bool → Hp → Prop} (h15 : σ[15]? = some (some (.ref p))) (h14 : σ[14]? = some (some (nV le))) (h12 : σ[12]? = some (some (nV many))) (hj : σ[j]? = some (some v)) (hv : ∀ H', Same H H' → Dp K H' v d)
    (hd1 : d.canLay0 = true) (hd2 : d.depth ≤ 50) (hd3 : PyData.eqv d d = true) (hr : Heard K H p d le many) (q : ∀ H', Same H H' → Q false H') :
    tAnd (tTest (tOp (rNeD K) (tVar 15) (tTup (tCons (tC (V.str "told")) (tCons (tVar j) tNil))))) (tOr (tTest (tOp (rNeD K) (tVar 15) (tTup (tCons (tC (V.str "great")) (tCons (tVar 14) (tCons (tC (V.bl true)) tNil)))))) (tTest (tOp (rI0 fun i j => V.bl (decide (i ≤ j))) (tVar 12) (tVar 14)))) σ H Q := by
  have hz : sizeLine = 16777216 := sizeLine_eq
  rcases hr with ⟨u, hp, hu⟩ | ⟨hp, hlt⟩
  · refine ⟨_, h15, _, hj, by show 2 ≤ sizeLine; omega, fun t nt => ?_⟩
    have s1 := Same.upd nt (o := .tup [V.str "told", v])
    refine ⟨toldD d, toldD d, .tup (SqT.of (s1 _ _ hp)) (.cons (.str _) (.cons (hu _ s1) .nil)), .tup (SqT.of upd_same) (.cons (.str _) (.cons (hv _ s1) .nil)), shaped_told hd1 hd2, shaped_told hd1 hd2, _, rfl, iteFb (by rw [eqv_told hd3]; rfl) ?_⟩
    exact q _ s1
  · refine ⟨_, h15, _, hj, by show 2 ≤ sizeLine; omega, fun t nt => ?_⟩
    have s1 := Same.upd nt (o := .tup [V.str "told", v])
    refine ⟨greatD le, toldD d, .tup (SqT.of (s1 _ _ hp)) (.cons (.str _) (.cons (.int _) (.cons (.bl _) .nil))), .tup (SqT.of upd_same) (.cons (.str _) (.cons (hv _ s1) .nil)), shaped_great _, shaped_told hd1 hd2, _, rfl, iteTb (by rw [eqv_mix]; rfl) ?_⟩
    refine ⟨_, h15, _, h14, by show 3 ≤ sizeLine; omega, fun t3 nt3 => ?_⟩
    have s3 := Same.upd nt3 (o := .tup [V.str "great", nV le, V.bl true])
    refine ⟨greatD le, greatD le, .tup (SqT.of (s3 _ _ (s1 _ _ hp))) (.cons (.str _) (.cons (.int _) (.cons (.bl _) .nil))), .tup (SqT.of upd_same) (.cons (.str _) (.cons (.int _) (.cons (.bl _) .nil))), shaped_great _, shaped_great _, _, rfl, iteFb (by rw [eqv_great]; rfl) ?_⟩
    refine ⟨_, h12, _, h14, _, _, rfl, rfl, _, rfl, ?_⟩
    rw [decide_eq_false (by omega)]
    exact q _ (s1.trans s3)
theorem Opened.kp {b d : Addr} {H H' : Hp} {l : List Pl} (h : Opened H d l) (s : Kp b H H') (hb : Bx H b) : Opened H' d l := let ⟨ks, O⟩ := h; ⟨ks, ⟨s.dT hb O.at_, O.nd, fun i q hq => let ⟨sts, h1, h2⟩ := O.prs i q hq; ⟨sts, h1.kp s hb, h2⟩, O.all, O.non⟩⟩
theorem SqL.kp0 {K : PySem.W.Frag} {a b : Addr} {xs : List V} {H H1 H' : Hp} (h : SqL K H a xs) (nb : H b = none) (s : Same H H1) (k : Kp b H1 H') : SqL K H' a xs := by
  rcases h with (h | ⟨o, h⟩) | h
  · exact .inl (.inl (k a _ (ne_of_none h nb) (fun _ z => nomatch z) (s _ _ h)))
  · exact .inl (.inr ⟨o, k a _ (ne_of_none h nb) (fun _ z => nomatch z) (s _ _ h)⟩)
  · exact .inr h
end Ow

/-! ## W25 -/
set_option Elab.async false
set_option linter.all false
set_option maxRecDepth 100000
set_option maxHeartbeats 32000000
/-! law -/
namespace Ow
open PySem PySem.Spec PyProof.Rows L2 LamX
section
variable {P : Program} {w : World} {K : PySem.W.Frag} {mg : Str → Option Value} {base : Heap} {cC cM cT cG cR cF cB cN cW : Addr}
def spLaw (K : PySem.W.Frag) (TT : List (Addr × Str)) : Sp := fun vs H Q _ => ∃ (a : Addr) (ns : List Int), vs = [.ref a] ∧ SqL K H a (ns.map V.int) ∧ Tabs TT H ∧ (∀ H', Q (.bl true) H')
theorem ok_law {f c Pt : Addr} {fd : FuncData} {TT : List (Addr × Str)} (F : FunC K "law" s_law f fd c) (T : Tx mg) (C_law_heard : ClH K mg) (hk : Hk K mg cF cB cG cR cN cW cC cM) (TB : TabB base mg c Pt) (hmT : (Pt, lamQ "law" (defScope s_law)) ∈ TT) (hu : ∀ p ∈ TT, p.1 = Pt → p.2 = lamQ "law" (defScope s_law))
    (C_law_box : Cl P w K mg base CX0 1 "_law_box" ["_law_script", "_law_k"] (spBox K) [])
    (C_law_take : Cl P w K mg base CX0 1 "_law_take" ["_law_box_here", "_law_many"] (spTake) [])
    (C_law_pick : Cl P w K mg base CX0 2 "_law_pick" ["_law_box_here", "_law_some"] (spPick) [])
    (C_law_any : Cl P w K mg base CX0 3 "_law_any" ["_law_box_here", "_law_most", "_law_deeds"] spAny [])
    (C_law_opened : Cl P w K mg base CX0 2 "_law_opened" ["_law_tables_here", "_law_first", "_law_rounds", "_law_rests", "_law_witness", "_law_start"] spOpened [])
    (C_law_one_right : ClG P w K mg base CX0 13 "_law_one_right" ["_law_box_here", "_law_machine", "_law_tables_here", "_law_first", "_law_rounds", "_law_rests", "_law_opened_here"] (spOneR cM TT))
    (C_Counters : ClM P w K mg base CX0 4 "Counters" cC ["self", "rounds", "rests"] (spCo K cC) [])
    (C_Machine : ClM P w K mg base CX0 6 "Machine" cM ["self", "tables"] (spMa cM) [])
    (C_open_lots : ClK P w K mg base (L2.CX P w) 7 "open_lots" ["machine", "first", "counters", "most"] 3 ["most"] gApp (spLots cC cM cG cR))
    (C_open_lots0 : ClK P w K mg base (L2.CX P w) 7 "open_lots" ["machine", "first", "counters", "most"] 0 ["most", "counters", "first", "machine"] (fun _ zs => zs.reverse) (spLots cC cM cG cR))
    (C_needed_values : ClK P w K mg base (L2.CX P w) 8 "needed_values" ["machine", "first", "counters", "most"] 3 ["most"] gApp (spNeed cC cM cG cR))
    (C_needed_values0 : ClK P w K mg base (L2.CX P w) 8 "needed_values" ["machine", "first", "counters", "most"] 0 ["most", "counters", "first", "machine"] (fun _ zs => zs.reverse) (spNeed cC cM cG cR)) : FnG P w K mg base CX0 14 f fd ["_law_script"] (spLaw K TT) := by
  refine funG F c_law (fun vs H Q E h => ?_) (fun A outer s H vs Q E hgd hr h => ?_)
  · obtain ⟨a, ns, rfl, _⟩ := h
    rfl
  have hgd' : (A.deeper (envOfC "law" (defScope s_law) s.heap.objs.size f (.ref c))).guards = some [] := hgd
  obtain ⟨a, ns, rfl, hS, hT, q⟩ := h
  refine ⟨_, pss_cons (ps_for PassesOwn.never rfl (pi_range1 (by rfl) T.n_range (pa_cons (pe_int) (pa_nil))) (pg_name (i := 1) c_law.nd rfl (Or.inl rfl))
    (pss_cons (ps_set (i := 2) c_law.nd rfl (Or.inr rfl) (pe_cl C_law_box (hr.mono (by decide)) pass0 rfl (pa_cons (pv 0) (pa_cons (pv 1) (pa_nil)))))
  (pss_cons (ps_asg (pe_cl C_law_any (hr.mono (by decide)) pass0 rfl (pa_cons (pv 2) (pa_cons (pe_cl C_law_pick (hr.mono (by decide)) pass0 rfl (pa_cons (pv 2) (pa_cons (pe_lst (pa_cons (pe_int) (pa_cons (pe_int) (pa_cons (pe_int) (pa_nil))))) (pa_nil)))) (pa_cons (pe_cl C_law_pick (hr.mono (by decide)) pass0 rfl (pa_cons (pv 2) (pa_cons (pe_lst (pa_cons (pe_int) (pa_cons (pe_int) (pa_cons (pe_int) (pa_nil))))) (pa_nil)))) (pa_nil))))) (pg_tup rfl (pgs_cons (pg_name (i := 3) c_law.nd rfl (Or.inl rfl)) (pgs_cons (pg_name (i := 4) c_law.nd rfl (Or.inr rfl)) (pgs_nil)))))
  (pss_cons (ps_asg (pe_tup (pa_cons (pe_clM C_Machine (hr.mono (by decide)) pass0 rfl (pa_cons (pv 3) (pa_nil))) (pa_cons (pe_callB (id := "len") (r := rLenOf K) call_len_seq (by rfl) T.n_len (by decide +kernel) (pa_cons (pv 3) (pa_nil))) (pa_nil)))) (pg_tup rfl (pgs_cons (pg_name (i := 5) c_law.nd rfl (Or.inr rfl)) (pgs_cons (pg_name (i := 6) c_law.nd rfl (Or.inr rfl)) (pgs_nil)))))
  (pss_cons (ps_setLc (i := 7) (own := [("_law_deed", 16)]) (g := gName 16) (tt := tYes) rfl c_law.nd rfl rfl (sw_true rfl rfl rfl (by decide +kernel)) (pi_range1 (by rfl) T.n_range (pa_cons (pv 6) (pa_nil))) (blkOk_by (by kernel_rfl)) (fun _ _ _ _ _ => pg_name (i := 16) c_law.nd rfl (by first | exact Or.inl rfl | exact Or.inr rfl)) (fun _ _ _ _ _ => pts_nil) (fun _ _ _ _ _ => pe_op op_add (pe_int) (pe_cl C_law_take (hr.mono (by decide)) pass0 rfl (pa_cons (pv 2) (pa_cons (pe_cl C_law_pick (hr.mono (by decide)) pass0 rfl (pa_cons (pv 2) (pa_cons (pe_ifExp (pt_cmpR op_lt (pv 6) (pe_int) (nomark _)) (pe_lst (pa_cons (pe_int) (pa_cons (pe_int) (pa_cons (pe_int) (pa_nil))))) (pe_lst (pa_cons (pe_int) (pa_nil)))) (pa_nil)))) (pa_nil))))))
  (pss_cons (ps_setLc (i := 8) (own := [("_law_deed", 16)]) (g := gName 16) (tt := tYes) rfl c_law.nd rfl rfl (sw_true rfl rfl rfl (by decide +kernel)) (pi_range1 (by rfl) T.n_range (pa_cons (pv 6) (pa_nil))) (blkOk_by (by kernel_rfl)) (fun _ _ _ _ _ => pg_name (i := 16) c_law.nd rfl (by first | exact Or.inl rfl | exact Or.inr rfl)) (fun _ _ _ _ _ => pts_nil) (fun _ _ _ _ _ => pe_cl C_law_pick (hr.mono (by decide)) pass0 rfl (pa_cons (pv 2) (pa_cons (pe_lst (pa_cons (pe_int) (pa_cons (pe_int) (pa_cons (pe_int) (pa_cons (pe_ifExp (pt_cmpR op_lt (pv 6) (pe_int) (nomark _)) (pe_int) (pe_int)) (pa_nil)))))) (pa_nil)))))
  (pss_cons (ps_set (i := 9) c_law.nd rfl (Or.inr rfl) (pe_cl C_law_opened (hr.mono (by decide)) pass0 rfl (pa_cons (pv 3) (pa_cons (pv 4) (pa_cons (pv 7) (pa_cons (pv 8) (pa_cons (pe_op op_rep (pe_lst (pa_cons (pe_tup (pa_cons (pe_int) (pa_nil))) (pa_nil))) (pv 6)) (pa_cons (pe_int) (pa_nil)))))))))
  (pss_cons (ps_if (pt_cmpR op_isN (pv 9) (pe_non) (nomark _)) (pss_one (ps_continue))
    (pss_nil))
  (pss_cons (ps_set (i := 10) c_law.nd rfl (Or.inl rfl) (pe_callTy (T := "tuple") (r := rTupOf K) call_tuple_of (by rfl) T.n_tuple (by decide +kernel) (pa_cons (pe_lc (own := [("_law_showing", 17)]) (g := gName 17) (tt := tYes) rfl c_law.nd (pi_listK K (pe_callB (cr_sortK encSh rfl hr.units) (by rfl) T.n_sorted (by decide +kernel) (pa_cons (pv 9) (pa_nil)))) (blkOk_by (by kernel_rfl)) (fun _ _ _ _ _ => pg_name (i := 17) c_law.nd rfl (by first | exact Or.inl rfl | exact Or.inr rfl)) (fun _ _ _ _ _ => pts_nil) (fun _ _ _ _ _ => pe_tup (pa_cons (pv 17) (pa_cons (pe_callTy (T := "tuple") (r := rTupOf K) call_tuple_of (by rfl) T.n_tuple (by decide +kernel) (pa_cons (pe_lc (own := [("_law_state", 18), ("_law_standing", 19)]) (g := gTup K 2 (gCons (gName 18) (gCons (gName 19) (gNil)))) (tt := tYes) rfl c_law.nd (pi_listK K (pe_dget (hu_of hr) (pv 9) (pv 17) (fun _ _ => rfl))) (blkOk_by (by kernel_rfl)) (fun _ _ _ _ _ => pg_tup rfl (pgs_cons (pg_name (i := 18) c_law.nd rfl (by first | exact Or.inl rfl | exact Or.inr rfl)) (pgs_cons (pg_name (i := 19) c_law.nd rfl (by first | exact Or.inl rfl | exact Or.inr rfl)) (pgs_nil)))) (fun _ _ _ _ _ => pts_nil) (fun _ _ _ _ _ => pv 18)) (pa_nil))) (pa_nil))))) (pa_nil))))
  (pss_cons (ps_asg (pe_tup (pa_cons (pe_clM C_Counters (hr.mono (by decide)) pass0 rfl (pa_cons (pv 7) (pa_cons (pv 8) (pa_nil)))) (pa_cons (pe_callB (cr_sum rfl) (by rfl) T.n_sum (by decide +kernel) (pa_cons (pe_lock (pe_lc (own := [("_law_showing", 17)]) (g := gName 17) (tt := tYes) rfl c_law.nd (pi_keys (pv 9)) (blkOk_by (by kernel_rfl)) (fun _ _ _ _ _ => pg_name (i := 17) c_law.nd rfl (by first | exact Or.inl rfl | exact Or.inr rfl)) (fun _ _ _ _ _ => pts_nil) (fun _ _ _ _ _ => pe_callB (id := "len") (r := rLenOf K) call_len_seq (by rfl) T.n_len (by decide +kernel) (pa_cons (pe_dget (hu_of hr) (pv 9) (pv 17) (fun _ _ => rfl)) (pa_nil))))) (pa_nil))) (pa_nil)))) (pg_tup rfl (pgs_cons (pg_name (i := 11) c_law.nd rfl (Or.inr rfl)) (pgs_cons (pg_name (i := 12) c_law.nd rfl (Or.inl rfl)) (pgs_nil)))))
  (pss_cons (ps_if (pt_cmpR op_ne (pe_callB (cr_repr hgd hr.units) (by rfl) T.n_repr (by decide +kernel) (pa_cons (pe_clK C_open_lots (hr.mono (by decide)) passNo rfl (pa_cons (pv 5) (pa_cons (pv 4) (pa_cons (pv 11) (pa_nil)))) (pk_cons (pv 12) (pk_nil))) (pa_nil))) (pe_callB (cr_repr hgd hr.units) (by rfl) T.n_repr (by decide +kernel) (pa_cons (pv 10) (pa_nil))) (nomark _)) (pss_one (ps_ret (pe_bl)))
    (pss_nil))
  (pss_cons (ps_if (pt_cmpR (op_neD hr.units) (pe_clK0 C_open_lots0 (hr.mono (by decide)) passNo rfl (pk_cons (pe_int) (pk_cons (pv 11) (pk_cons (pv 4) (pk_cons (pv 5) (pk_nil)))))) (pv 10) (nomark _)) (pss_one (ps_ret (pe_bl)))
    (pss_nil))
  (pss_cons (ps_set (i := 13) c_law.nd rfl (Or.inl rfl) (pe_callB (cr_max rfl) (by rfl) T.n_max (by decide +kernel) (pa_cons (pe_lc (own := [("_law_showing", 17), ("_law_states", 20)]) (g := gTup K 2 (gCons (gName 17) (gCons (gName 20) (gNil)))) (tt := tYes) rfl c_law.nd (pi_tupK K (pv 10)) (blkOk_by (by kernel_rfl)) (fun _ _ _ _ _ => pg_tup rfl (pgs_cons (pg_name (i := 17) c_law.nd rfl (by first | exact Or.inl rfl | exact Or.inr rfl)) (pgs_cons (pg_name (i := 20) c_law.nd rfl (by first | exact Or.inl rfl | exact Or.inr rfl)) (pgs_nil)))) (fun _ _ _ _ _ => pts_nil) (fun _ _ _ _ _ => pe_callB (id := "len") (r := rLenOf K) call_len_seq (by rfl) T.n_len (by decide +kernel) (pa_cons (pv 20) (pa_nil)))) (pa_nil))))
  (pss_cons (ps_if (pt_cmpR op_ne (pe_callB SkE.call_repr_int (by rfl) T.n_repr (by decide +kernel) (pa_cons (pe_clK C_needed_values (hr.mono (by decide)) passNo rfl (pa_cons (pv 5) (pa_cons (pv 4) (pa_cons (pv 11) (pa_nil)))) (pk_cons (pv 12) (pk_nil))) (pa_nil))) (pe_callB SkE.call_repr_int (by rfl) T.n_repr (by decide +kernel) (pa_cons (pv 13) (pa_nil))) (nomark _)) (pss_one (ps_ret (pe_bl)))
    (pss_nil))
  (pss_cons (ps_if (pt_cmpR op_ne (pe_clK0 C_needed_values0 (hr.mono (by decide)) passNo rfl (pk_cons (pv 12) (pk_cons (pv 11) (pk_cons (pv 4) (pk_cons (pv 5) (pk_nil)))))) (pv 13) (nomark _)) (pss_one (ps_ret (pe_bl)))
    (pss_nil))
  (pss_cons (ps_set (i := 14) c_law.nd rfl (Or.inr rfl) (pe_op op_add (pe_int) (pe_cl C_law_take (hr.mono (by decide)) pass0 rfl (pa_cons (pv 2) (pa_cons (pe_int) (pa_nil))))))
  (pss_cons (ps_set (i := 15) c_law.nd rfl (Or.inl rfl) (pe_heard (k := 8) C_law_heard T hk (hr.mono (by decide)) TB hmT hu (fun _ _ _ _ _ _ _ hr => pe_clK C_open_lots (hr.mono (by decide)) (passX (takes_of rfl rfl rfl rfl) (fun _ _ _ _ h => h)) rfl (pa_cons (pv 5) (pa_cons (pv 4) (pa_cons (pv 11) (pa_nil)))) (pk_cons (pv 14) (pk_nil)))))
  (pss_cons (ps_if (PW.pt (pw_and (pt_cmpR (op_neD hr.units) (pv 15) (pe_tup (pa_cons (pe_str) (pa_cons (pv 10) (pa_nil)))) (nomark _)) (pw_and1 (PW.pt (pw_or (pt_cmpR (op_neD hr.units) (pv 15) (pe_tup (pa_cons (pe_str) (pa_cons (pv 14) (pa_cons (pe_bl) (pa_nil))))) (nomark _)) (pw_or1 (pt_cmpR op_le (pv 12) (pv 14) (nomark _)))))))) (pss_one (ps_ret (pe_bl)))
    (pss_nil))
  (pss_cons (ps_set (i := 15) c_law.nd rfl (Or.inl rfl) (pe_heard (k := 8) C_law_heard T hk (hr.mono (by decide)) TB hmT hu (fun _ _ _ _ _ _ _ hr => pe_clK C_needed_values (hr.mono (by decide)) (passX (takes_of rfl rfl rfl rfl) (fun _ _ _ _ h => h)) rfl (pa_cons (pv 5) (pa_cons (pv 4) (pa_cons (pv 11) (pa_nil)))) (pk_cons (pv 14) (pk_nil)))))
  (pss_cons (ps_if (PW.pt (pw_and (pt_cmpR (op_neD hr.units) (pv 15) (pe_tup (pa_cons (pe_str) (pa_cons (pv 13) (pa_nil)))) (nomark _)) (pw_and1 (PW.pt (pw_or (pt_cmpR (op_neD hr.units) (pv 15) (pe_tup (pa_cons (pe_str) (pa_cons (pv 14) (pa_cons (pe_bl) (pa_nil))))) (nomark _)) (pw_or1 (pt_cmpR op_le (pv 12) (pv 14) (nomark _)))))))) (pss_one (ps_ret (pe_bl)))
    (pss_nil))
  (pss_cons (ps_if (pt_not (pt_val (pe_clG C_law_one_right hgd (hr.mono (by decide)) pass0 rfl (pa_cons (pv 2) (pa_cons (pv 5) (pa_cons (pv 3) (pa_cons (pv 4) (pa_cons (pv 7) (pa_cons (pv 8) (pa_cons (pv 9) (pa_nil))))))))))) (pss_one (ps_ret (pe_bl)))
    (pss_nil))
  (pss_cons (ps_set (i := 4) c_law.nd rfl (Or.inr rfl) (pe_cl C_law_take (hr.mono (by decide)) pass0 rfl (pa_cons (pv 2) (pa_cons (pe_callB (id := "len") (r := rLenOf K) call_len_seq (by rfl) T.n_len (by decide +kernel) (pa_cons (pe_ix (r := rIxT K) ix_tup (pv 3) (pe_int) (fun _ _ => rfl)) (pa_nil))) (pa_nil)))))
  (pss_cons (ps_set (i := 9) c_law.nd rfl (Or.inr rfl) (pe_cl C_law_opened (hr.mono (by decide)) pass0 rfl (pa_cons (pv 3) (pa_cons (pv 4) (pa_cons (pv 7) (pa_cons (pv 8) (pa_cons (pe_op op_rep (pe_lst (pa_cons (pe_tup (pa_cons (pe_int) (pa_nil))) (pa_nil))) (pv 6)) (pa_cons (pe_int) (pa_nil)))))))))
  (pss_one (ps_if (pt_cmpR op_notN (pv 9) (pe_non) (nomark _)) (pss_cons (ps_set (i := 10) c_law.nd rfl (Or.inl rfl) (pe_callTy (T := "tuple") (r := rTupOf K) call_tuple_of (by rfl) T.n_tuple (by decide +kernel) (pa_cons (pe_lc (own := [("_law_showing", 17)]) (g := gName 17) (tt := tYes) rfl c_law.nd (pi_listK K (pe_callB (cr_sortK encSh rfl hr.units) (by rfl) T.n_sorted (by decide +kernel) (pa_cons (pv 9) (pa_nil)))) (blkOk_by (by kernel_rfl)) (fun _ _ _ _ _ => pg_name (i := 17) c_law.nd rfl (by first | exact Or.inl rfl | exact Or.inr rfl)) (fun _ _ _ _ _ => pts_nil) (fun _ _ _ _ _ => pe_tup (pa_cons (pv 17) (pa_cons (pe_callTy (T := "tuple") (r := rTupOf K) call_tuple_of (by rfl) T.n_tuple (by decide +kernel) (pa_cons (pe_lc (own := [("_law_state", 18), ("_law_standing", 19)]) (g := gTup K 2 (gCons (gName 18) (gCons (gName 19) (gNil)))) (tt := tYes) rfl c_law.nd (pi_listK K (pe_dget (hu_of hr) (pv 9) (pv 17) (fun _ _ => rfl))) (blkOk_by (by kernel_rfl)) (fun _ _ _ _ _ => pg_tup rfl (pgs_cons (pg_name (i := 18) c_law.nd rfl (by first | exact Or.inl rfl | exact Or.inr rfl)) (pgs_cons (pg_name (i := 19) c_law.nd rfl (by first | exact Or.inl rfl | exact Or.inr rfl)) (pgs_nil)))) (fun _ _ _ _ _ => pts_nil) (fun _ _ _ _ _ => pv 18)) (pa_nil))) (pa_nil))))) (pa_nil))))
  (pss_one (ps_if (pt_cmpR op_ne (pe_callB (cr_repr hgd hr.units) (by rfl) T.n_repr (by decide +kernel) (pa_cons (pe_clK C_open_lots (hr.mono (by decide)) passNo rfl (pa_cons (pv 5) (pa_cons (pv 4) (pa_cons (pv 11) (pa_nil)))) (pk_cons (pe_int) (pk_nil))) (pa_nil))) (pe_callB (cr_repr hgd hr.units) (by rfl) T.n_repr (by decide +kernel) (pa_cons (pv 10) (pa_nil))) (nomark _)) (pss_one (ps_ret (pe_bl)))
    (pss_nil))))
    (pss_nil))))))))))))))))))))))))))
  (pss_one (ps_ret (pe_bl))), ?_⟩
  have hz : sizeLine = 16777216 := sizeLine_eq
  refine ⟨_, rfl, by decide, by decide, for_rangeN (fun i σ H' => ∃ v1 v2 v3 v4 v5 v6 v7 v8 v9 v10 v11 v12 v13 v14 v15 v16 v17 v18 v19 v20, σ = [some (.ref a), v1, v2, v3, v4, v5, v6, v7, v8, v9, v10, v11, v12, v13, v14, v15, v16, v17, v18, v19, v20] ∧ SqL K H' a (ns.map V.int) ∧ Tabs TT H') ?_ ?_ ?_⟩
  · exact ⟨_, _, _, _, _, _, _, _, _, _, _, _, _, _, _, _, _, _, _, _, rfl, hS, hT⟩
  · rintro i σ H0 hi ⟨v1, v2, v3, v4, v5, v6, v7, v8, v9, v10, v11, v12, v13, v14, v15, v16, v17, v18, v19, v20, rfl, hS0, hT0⟩
    have hi3 : i < 3 := by simpa using hi
    refine ⟨_, rfl, _, rfl, a, ns, i, rfl, hS0, by omega, fun H1 b s1 nb b1 => ?_⟩
    have t1 := tabs_same hT0 s1
    have x1 : ExtN H0 H1 := ExtN.of s1
    -- any tables
    refine ⟨_, rfl, _, rfl, by show 3 ≤ sizeLine; omega, fun z1 nz1 => ⟨b, z1, [3, 4, 6], rfl, b1.same (Same.upd nz1), fun z => (b1.ne nz1) z.symm, upd_same, by decide, by decide, fun m1 H3 hm1 s3 b3 => ⟨_, rfl, by show 3 ≤ sizeLine; omega, fun z2 nz2 => ⟨b, z2, [3, 4, 3], rfl, b3.same (Same.upd nz2), fun z => (b3.ne nz2) z.symm, upd_same, by decide, by decide, fun d1 H5 hd1 s5 b5 => ?_⟩⟩⟩⟩
    have m16 : 1 ≤ m1 ∧ m1 ≤ 6 := by simp at hm1; omega
    have d14 : 1 ≤ d1 ∧ d1 ≤ 4 := by simp at hd1; omega
    refine ⟨b, m1, d1, rfl, b5, m16.1, m16.2, d14.1, d14.2, fun p tt ts n first H6 s6 b6 e6 tt6 ok hf hn => ⟨p, _, rfl, SqT.of e6, rfl, _, _, rfl, _, _, rfl, rfl, ?_⟩⟩
    have b2 := b1.same (Same.upd nz1 (o := .lst [V.int 3, V.int 4, V.int 6]))
    have b4 := b3.same (Same.upd nz2 (o := .lst [V.int 3, V.int 4, V.int 3]))
    have k6 : Kp b H1 H6 := (((((Kp.same (Same.upd nz1)).trans (.sx s3)).trans (.same (Same.upd nz2))).trans (.sx s5)).trans (.sx s6))
    have t6 : Tabs TT H6 := tabs_sx (tabs_sx (tabs_same (tabs_sx (tabs_same t1 (Same.upd nz1)) b2 s3) (Same.upd nz2)) b4 s5) b5 s6
    clear b2 b4 s3 s5 s6 b3 b5 nz1 nz2 hm1 hd1 e6
    obtain ⟨as, hta1, hta2⟩ := id tt6
    have hal : (as.map V.ref).length = ts.length := by rw [List.length_map]; exact Paired.length hta2
    have one := ok.one
    have four := ok.four
    -- the machine
    refine ⟨_, rfl, ?_⟩
    intro x dx nx n2 n3
    refine make_ma tt6 ok x dx nx n2 n3 fun H7 s7 ma7 => ⟨rfl, _, rfl, tt, _, rfl, .inr (SqT.of (s7 _ _ hta1)), by show 2 ≤ sizeLine; omega, fun tp ntp => ⟨tp, _, rfl, SqT.of upd_same, rfl, _, _, rfl, _, _, rfl, rfl, ?_⟩⟩
    rw [hal]
    have s8 := s7.trans (Same.upd ntp (o := .tup [V.ref x, V.int ((as.map V.ref).length : Nat)]))
    have ma8 : MaAt cM (upd H7 tp (.tup [V.ref x, V.int ((as.map V.ref).length : Nat)])) x ts n := ma7.same (Same.upd ntp)
    rw [hal] at s8 ma8
    generalize upd H7 tp (.tup [V.ref x, V.int (ts.length : Nat)]) = H8 at s8 ma8 ⊢
    have k8 := k6.trans (.same s8)
    have b8 := b6.same s8
    have t8 := tabs_same t6 s8
    have tt8 := tt6.same s8
    clear ntp nx n2 n3 s7 ma7 k6 b6 t6
    -- the rounds
    refine ⟨_, rfl, _, rfl, by omega, by omega, fun D hD => lcE_range (E := fun z => z = b) (J := fun H => Bx H b) (R := fun i y _ => ∃ d, d < 5 ∧ y = nV d ∧ 1 ≤ d) hD (fun z => (b8.ne hD) z.symm) (by omega) b8 (fun H o j => j.ne_upd (b8.ne hD)) (fun _ _ _ _ _ _ e _ => e) ?_ ?_⟩
    · intro i H9 kk hi s9 j9 _ fin
      refine ⟨rfl, _, rfl, _, rfl, _, rfl, _, _, rfl, rfl, _, rfl, ite2 (fun _ => ?_) fun _ => ?_⟩
      · refine ⟨by show 3 ≤ sizeLine; omega, fun z nz => ⟨b, z, [2, 3, 4], rfl, j9.same (Same.upd nz), fun e => (j9.ne nz) e.symm, upd_same, by decide, by decide, fun m Hm hm sm bm => ?_⟩⟩
        have m4 : 1 ≤ m ∧ m ≤ 4 := by simp at hm; omega
        exact ⟨b, m, rfl, bm, m4.1, by omega, fun d H' hd sd bd => rI0n (c := d + 1) (congrArg V.int (by omega)) (fin _ _ ((SmE.of (Same.upd nz)).trans (sm.trans sd)) bd ⟨d + 1, by omega, rfl, by omega⟩)⟩
      · refine ⟨by show 1 ≤ sizeLine; omega, fun z nz => ⟨b, z, [2], rfl, j9.same (Same.upd nz), fun e => (j9.ne nz) e.symm, upd_same, by decide, by decide, fun m Hm hm sm bm => ?_⟩⟩
        have m4 : 1 ≤ m ∧ m ≤ 4 := by simp at hm; omega
        exact ⟨b, m, rfl, bm, m4.1, by omega, fun d H' hd sd bd => rI0n (c := d + 1) (congrArg V.int (by omega)) (fin _ _ ((SmE.of (Same.upd nz)).trans (sm.trans sd)) bd ⟨d + 1, by omega, rfl, by omega⟩)⟩
    intro H9 ys s9 b9 e9 l9 ry
    obtain ⟨rs, rfl, hrs⟩ := nats_of fun j y hy => let ⟨d, h1, h2, _⟩ := ry j y hy; ⟨d, h1, h2⟩
    rw [nVs_len] at l9
    have hl : rs.length = ts.length := l9
    have r4 : ∀ x ∈ rs, x ≤ 4 := fun x hx => by have := hrs x hx; omega
    have hpos : ∀ i, i < rs.length → 0 < rs.getD i 0 := fun i hi => by
      obtain ⟨x, hx⟩ := get_lt hi
      obtain ⟨d, h1, h2, h3⟩ := ry i _ (nVs_get hx)
      have := nV_inj h2
      rw [getD_of hx]
      omega
    have nDb : D ≠ b := fun z => (b8.ne hD) z.symm
    have k9 := k8.trans (.sx s9)
    have t9 := tabs_sx t8 b8 s9
    have R9 : LN H9 D rs := e9
    have tt9 := tt8.kp (.sx s9) b8
    have ma9 := ma8.kp (.sx s9) b8
    clear hrs e9 l9 ry hD s8 s9 tt8 ma8 t8 b8 k8
    -- the rests
    refine ⟨_, rfl, _, rfl, by omega, by omega, fun D2 hD2 => lcE_range (E := fun z => z = b) (J := fun H => Bx H b) (R := fun i y _ => ∃ d, d < 3 ∧ y = nV d) hD2 (fun z => (b9.ne hD2) z.symm) (by omega) b9 (fun H o j => j.ne_upd (b9.ne hD2)) (fun _ _ _ _ _ _ e _ => e) ?_ ?_⟩
    · intro i H10 kk hi s10 j10 _ fin
      refine ⟨rfl, _, rfl, _, rfl, _, _, rfl, rfl, _, rfl, ite2 (fun _ => ?_) fun _ => ?_⟩
      · exact ⟨by show 4 ≤ sizeLine; omega, fun z nz => ⟨b, z, [0, 0, 1, 2], rfl, j10.same (Same.upd nz), fun e => (j10.ne nz) e.symm, upd_same, by decide, by decide, fun m Hm hm sm bm => fin _ _ ((SmE.of (Same.upd nz)).trans sm) bm ⟨m, by simp at hm; omega, rfl⟩⟩⟩
      · exact ⟨by show 4 ≤ sizeLine; omega, fun z nz => ⟨b, z, [0, 0, 1, 1], rfl, j10.same (Same.upd nz), fun e => (j10.ne nz) e.symm, upd_same, by decide, by decide, fun m Hm hm sm bm => fin _ _ ((SmE.of (Same.upd nz)).trans sm) bm ⟨m, by simp at hm; omega, rfl⟩⟩⟩
    intro H10 ys s10 b10 e10 l10 ry
    obtain ⟨ss, rfl, hss⟩ := nats_of ry
    rw [nVs_len] at l10
    have hs : ss.length = rs.length := by omega
    have s2' : ∀ x ∈ ss, x ≤ 2 := fun x hx => by have := hss x hx; omega
    have nD2b : D2 ≠ b := fun z => (b9.ne hD2) z.symm
    have k10 := k9.trans (.sx s10)
    have t10 := tabs_sx t9 b9 s10
    have R10 : LN H10 D rs := s10 _ _ nDb R9
    have S10 : LN H10 D2 ss := e10
    have tt10 := tt9.kp (.sx s10) b9
    have ma10 := ma9.kp (.sx s10) b9
    clear hss e10 l10 ry hD2 s10 tt9 ma9 t9 b9 k9 R9
    -- all that is opened
    refine ⟨_, rfl, _, rfl, _, rfl, _, rfl, by show 1 ≤ sizeLine; omega, fun z nz => ⟨by show 1 ≤ sizeLine; omega, fun z2 nz2 => ⟨_, rfl, z2, _, _, rfl, rfl, upd_same, by omega, by omega, by simp; omega, fun wt nwt => ?_⟩⟩⟩
    have s11 := ((Same.upd nz (o := .tup [V.int 0])).trans (Same.upd nz2 (o := .lst [.ref z]))).trans (Same.upd nwt (o := .lst (List.replicate ((((ts.length : Nat) : Nat) : Int)).toNat [V.ref z]).flatten))
    have w11 : WitAt (upd (upd (upd H10 z (.tup [V.int 0])) z2 (.lst [.ref z])) wt (.lst (List.replicate (((ts.length : Nat) : Int)).toNat [V.ref z]).flatten)) wt ts.length := ⟨z, by rw [upd_same, Int.toNat_natCast, refs_repl], (Same.upd nwt) _ _ ((Same.upd nz2) _ _ upd_same)⟩
    refine ⟨tt, D, D2, wt, ts, n, first, rs, ss, rfl, tt10.same s11, ok, hf, R10.same s11, S10.same s11, hl, hs, w11, fun H12 d l s12 nd12 Fu hl5 Op => ?_, fun H12 l s12 _ _ _ => ?_⟩
    rotate_left
    · refine ⟨_, rfl, rfl, _, rfl, iteTb rfl ?_⟩
      refine ⟨_, _, _, _, _, _, _, _, _, _, _, _, _, _, _, _, _, _, _, _, rfl, SqL.kp0 hS0 nb s1 (k10.trans (.same (s11.trans s12))), tabs_same t10 (s11.trans s12)⟩
    have s1012 := s11.trans s12
    obtain ⟨ks, A', O⟩ := Op.rows
    have k12 := k10.trans (.same s1012)
    have b12 := b10.same s1012
    have t12 := tabs_same t10 s1012
    have R12 := R10.same s1012
    have S12 := S10.same s1012
    have tt12 := tt10.same s1012
    have ma12 := ma10.same s1012
    clear s11 s12 s1012 w11 k10 t10 R10 S10 tt10 ma10 nz nz2 nwt
    have rows := op_rows ok hf hl hpos r4 s2' Fu O
    -- what is due
    refine ⟨_, rfl, rfl, _, rfl, iteFb rfl ?_⟩
    refine due_read O hl5 (fun a ha => ⟨(rows a ha).1, (rows a ha).2.2.1⟩) fun H13 du L s13 hL lots inA Ll => ?_
    have O13 := O.kp (.same s13) b12
    have k13 := k12.trans (.same s13)
    have b13 := b12.same s13
    have t13 := tabs_same t12 s13
    have R13 := R12.same s13
    have S13 := S12.same s13
    have tt13 := tt12.same s13
    have ma13 := ma12.same s13
    have Op13 := Op.kp (.same s13) b12
    have rep := op_repr rows inA (by omega : L.length ≤ 7000)
    obtain ⟨ra, rb, rc, rd⟩ := rep
    have hw8 : ∀ q ∈ L, q.2.length ≤ 8 := fun q hq => (rows q (inA q hq)).2.2.1
    clear s13 k12 b12 t12 R12 S12 tt12 ma12 Op nd12
    dsimp only [List.set_cons_succ, List.set_cons_zero]
    -- the counters
    refine ⟨_, rfl, _, rfl, ?_⟩
    intro c1 dc1 nc1 nc2 nc3
    refine make_co R13 (by omega) (by omega) (fun z hz => Nat.le_trans (r4 z hz) (by decide)) (.inl ⟨S13, by omega⟩) (fun z hz => Nat.le_trans (s2' z hz) (by decide)) c1 dc1 nc1 nc2 nc3 fun H14 s14 co14 => ⟨rfl, ?_⟩
    have O14 := O13.kp (.same s14) b13
    have k14 := k13.trans (.same s14)
    have b14 := b13.same s14
    have t14 := tabs_same t13 s14
    have R14 := R13.same s14
    have S14 := S13.same s14
    have tt14 := tt13.same s14
    have ma14 := ma13.same s14
    have Op14 := Op13.kp (.same s14) b13
    have du14 : LotsAt H14 du L := hL.keep fun _ _ e => s14 _ _ e
    clear s14 k13 b13 t13 R13 S13 tt13 ma13 Op13 O13 O hL nc1 nc2 nc3
    -- so many
    refine ⟨d, _, O14.at_, trivial, fun od => ⟨_, rfl, d, od, rfl, .inr ⟨_, upd_same, fun D3 hD3 => ?_⟩⟩⟩
    have rK : (upd H14 d (.frz od (.dT (ksV ks)))) d = some (.frz od (.dT (ksV ks))) := upd_same
    have oK : ∀ a, a ≠ d → (upd H14 d (.frz od (.dT (ksV ks)))) a = H14 a := fun a na => upd_ne na
    generalize upd H14 d (.frz od (.dT (ksV ks))) = HK at hD3 rK oK ⊢
    have nD3 : D3 ≠ d := fun z => by rw [z, rK] at hD3; cases hD3
    have oK' : ∀ a o, H14 a = some o → (∀ kv, o ≠ .dT kv) → HK a = some o := fun a o e n => by rw [oK a (ne_of e O14.at_ (n _))]; exact e
    have ksl := O14.len
    have Al := op_few O14
    have ndk : (ks.map (·.1)).Nodup := by rw [keys_eq O14.pr]; exact O14.nd
    refine lcE_genY (n := ks.length) (fun i H => Same HK H ∧ H D3 = some (.lst (((A'.take i).map fun a => (a.2.length : Int)).map V.int))) ⟨Same.upd hD3, upd_same⟩ (fun i H hi p => ⟨p.1 _ _ rK, by show i < (ksV ks).length; rw [List.length_map]; exact hi⟩) (fun H p => ⟨p.1 _ _ rK, by show (ksV ks).length ≤ ks.length; rw [List.length_map]; exact Nat.le_refl _⟩) ?_ ?_
    · rintro i y H16 H15 hi ⟨sm, eD⟩ ⟨rfl, kk, v, qk, e1, rfl, hqk⟩
      obtain ⟨kq, hkq⟩ := get_lt hi
      obtain ⟨ar, har, er, hpr⟩ := paired_at' O14.pr hkq
      have e1' : (ksV ks)[i]? = some (skey kq.1, V.ref kq.2) := by unfold ksV; rw [List.getElem?_map, hkq]; rfl
      cases e1.symm.trans e1'
      have tk : (A'.take (i + 1)) = A'.take i ++ [ar] := by rw [List.take_add_one, har]; rfl
      have hv2 : valV (ksV ks) (skey kq.1) = some (.ref kq.2) := ks_some ndk (List.mem_of_getElem? hkq)
      have dg : DGet H15 d (.ref qk) (valV (ksV ks) (skey kq.1)) := .inr ⟨_, skey kq.1, qk, .inr ⟨od, sm _ _ rK⟩, rfl, hqk, rfl⟩
      rw [hv2] at dg
      obtain ⟨pl, hpl1, hpl2⟩ := hpr
      refine ⟨rfl, _, rfl, _, rfl, d, _, rfl, dg, kq.2, _, rfl, .inl (SqL.of (sm _ _ (oK' _ _ hpl1 fun _ z => nomatch z))), _, eD, ?_, Same.updR sm hD3, ?_⟩
      · rw [List.length_map, List.length_map, List.length_take]
        omega
      · rw [upd_same, tk, List.map_append, List.map_append, List.length_map, Paired.length hpl2]
        rfl
    rintro H15 ⟨sm, eD⟩
    rw [ksl, List.take_length] at eD
    refine ⟨sm _ _ rK, D3, _, rfl, SqL.of (by rw [upd_ne nD3]; exact eD), ?_⟩
    rw [sum_lens]
    have s16 : Same H14 (upd H15 d (.dT (ksV ks))) := fun a o e => by
      by_cases z : a = d
      · rw [z, O14.at_] at e
        rw [z, upd_same]
        exact e
      · rw [upd_ne z]
        exact sm a o (by rw [oK a z]; exact e)
    generalize upd H15 d (.dT (ksV ks)) = H16 at s16 ⊢
    have cnt := op_cnt O14
    have few0 := op_room Fu O14
    have pos1 := op_pos Fu O14
    clear rows inA O14
    generalize lenP A' = many at cnt few0 pos1 ⊢
    refine ⟨by show 2 ≤ sizeLine; omega, fun tp2 ntp2 => ⟨tp2, _, rfl, SqT.of upd_same, rfl, _, _, rfl, _, _, rfl, rfl, ?_⟩⟩
    have s17 := s16.trans (Same.upd ntp2 (o := .tup [V.ref c1, V.int ((many : Nat) : Int)]))
    generalize upd H16 tp2 (.tup [V.ref c1, V.int ((many : Nat) : Int)]) = H17 at s17 ⊢
    have k17 := k14.trans (.same s17)
    have b17 := b14.same s17
    have t17 := tabs_same t14 s17
    have R17 := R14.same s17
    have S17 := S14.same s17
    have tt17 := tt14.same s17
    have ma17 := ma14.same s17
    have Op17 := Op14.kp (.same s17) b14
    have du17 : LotsAt H17 du L := du14.keep fun _ _ e => s17 _ _ e
    have co17 := co14.same s17
    clear s16 s17 ntp2 eD sm rK oK oK' hD3 nD3 k14 b14 t14 R14 S14 tt14 ma14 Op14 du14 co14 ksl Al ndk
    have n0 : 0 ∉ rs := fun z => by
      obtain ⟨i, hi⟩ := List.mem_iff_getElem?.mp z
      have := hpos i (List.getElem?_eq_some_iff.mp hi).1
      rw [getD_of hi] at this
      omega
    have len1 : ∀ {L2 : List Rw}, Lots (Reach rs ss ts none first) L2 → L2 = L := fun h => op_one Fu lots h
    dsimp only [List.set_cons_succ, List.set_cons_zero]
    -- open_lots, by place
    refine ⟨_, rfl, _, rfl, _, rfl, _, rfl, rfl, rfl, x, c1, ts, n, first, many, rs, ss, rfl, ma17, ok, hf, co17, hl, hs, pos1, by omega, fun _ => ⟨fun H18 p18 l2 L2 s18 Fu2 hlm hL2 lots2 => ?_, fun d2 H18 l2 _ _ _ nd2 re2 hlt => ?_⟩, fun h0 => absurd h0 n0⟩
    rotate_left
    · have := few0 l2 nd2 re2
      omega
    obtain rfl := len1 lots2
    have du18 : LotsAt H18 du L2 := du17.keep fun _ _ e => s18 _ _ e
    refine ⟨p18, lotsD L2, rfl, dp_lots hL2, ra, rb, rc, rd, _, rfl, du, lotsD L2, rfl, dp_lots du18, ra, rb, rc, rd, rfl, _, rfl, iteFb (by simp) ?_⟩
    have k18 := k17.trans (.same s18)
    have b18 := b17.same s18
    have t18 := tabs_same t17 s18
    have R18 := R17.same s18
    have S18 := S17.same s18
    have tt18 := tt17.same s18
    have ma18 := ma17.same s18
    have Op18 := Op17.kp (.same s18) b17
    have co18 := co17.same s18
    clear s18 k17 b17 t17 R17 S17 tt17 ma17 Op17 du17 co17 hL2 Fu2 hlm p18
    -- open_lots, by name
    refine ⟨_, rfl, _, rfl, _, rfl, rfl, rfl, x, c1, ts, n, first, 6000, rs, ss, rfl, ma18, ok, hf, co18, hl, hs, by omega, by omega, fun _ => ⟨fun H19 p19 l2 L3 s19 Fu2 hlm hL3 lots3 => ?_, fun d2 H19 l2 _ _ _ nd2 re2 hlt => ?_⟩, fun h0 => absurd h0 n0⟩
    rotate_left
    · have := few0 l2 nd2 re2
      omega
    obtain rfl := len1 lots3
    have du19 : LotsAt H19 du L3 := du18.keep fun _ _ e => s19 _ _ e
    refine ⟨_, rfl, lotsD L3, lotsD L3, dp_lots hL3, dp_lots du19, shaped_of (lay_lots _) (by have := depth_lots L3; omega), shaped_of (lay_lots _) (by have := depth_lots L3; omega), _, rfl, iteFb (by rw [eqv_lots]; rfl) ?_⟩
    have k19 := k18.trans (.same s19)
    have b19 := b18.same s19
    have t19 := tabs_same t18 s19
    have R19 := R18.same s19
    have S19 := S18.same s19
    have tt19 := tt18.same s19
    have ma19 := ma18.same s19
    have Op19 := Op18.kp (.same s19) b18
    have co19 := co18.same s19
    clear s19 k18 b18 t18 R18 S18 tt18 ma18 Op18 du18 co18 hL3 Fu2 hlm p19
    -- the greatest
    obtain ⟨las, la, hp⟩ := id du19
    have lal : las.length = L3.length := Paired.length hp
    refine ⟨_, rfl, du, rfl, ⟨_, SqT.of la⟩, fun D4 hD4 => lcE_tup (E := E0') (J := fun _ => True) (R := fun i y _ => ∃ q, L3[i]? = some q ∧ y = nV q.2.length) hD4 (fun z => z) (by rw [List.length_map]; omega) trivial (fun _ _ _ => trivial) (fun H2 s2 _ => SqT.of (s2.same _ _ la)) (fun _ _ _ _ _ _ e _ => e) ?_ ?_⟩
    · intro i x H2 kk hx s2 _ _ fin
      obtain ⟨a, hia, rfl⟩ := refs_back hx
      obtain ⟨q, hq, u, v, h1, h2, h3⟩ := paired_at' hp hia
      refine ⟨a, _, rfl, SqT.of (s2.same _ _ h1), rfl, _, _, rfl, _, _, rfl, rfl, rfl, ?_⟩
      refine ⟨_, rfl, v, _, rfl, .inr (TN.sq (h3.same s2.same)), ?_⟩
      refine fin _ _ .refl trivial ⟨q, hq, ?_⟩
      rw [nVs_len]
    intro H20 ys s20 _ hy ly ry
    rw [List.length_map, lal] at ly
    have ey : ys = (L3.map fun q => ((q.2.length : Nat) : Int)).map V.int := by
      apply List.ext_getElem?
      intro i
      rw [List.map_map, List.getElem?_map]
      by_cases hi : i < L3.length
      · obtain ⟨y, hy'⟩ := get_lt (show i < ys.length by omega)
        obtain ⟨q, hq, e⟩ := ry i y hy'
        rw [hy', hq, e]
        rfl
      · rw [List.getElem?_eq_none (by omega), List.getElem?_eq_none (by omega)]
        rfl
    have hpos3 : 0 < L3.length := by
      obtain ⟨q, hq, _⟩ := lots3.all _ (Reach.start (rs := rs) (ss := ss) (ts := ts) (lim := none) (start := first))
      exact List.length_pos_of_mem hq
    refine ⟨D4, L3.map fun q => ((q.2.length : Nat) : Int), rfl, SqL.of (by rw [hy, ey]), by rw [List.length_map]; exact hpos3, fun g0 hg hle => ?_⟩
    obtain ⟨qg, hqg, eg⟩ := List.mem_map.mp hg
    subst eg
    have g1 : ∃ q ∈ L3, q.2.length = qg.2.length := ⟨qg, hqg, rfl⟩
    have g2 : ∀ q ∈ L3, q.2.length ≤ qg.2.length := fun q' hq' => by
      have := hle _ (List.mem_map.mpr ⟨q', hq', rfl⟩)
      omega
    generalize qg.2.length = g at g1 g2 ⊢
    have k20 := k19.trans (.same s20.same)
    have b20 := b19.same s20.same
    have t20 := tabs_same t19 s20.same
    have R20 := R19.same s20.same
    have S20 := S19.same s20.same
    have tt20 := tt19.same s20.same
    have ma20 := ma19.same s20.same
    have Op20 := Op19.kp (.same s20.same) b19
    have co20 := co19.same s20.same
    have du20 : LotsAt H20 du L3 := du19.keep fun _ _ e => s20.same _ _ e
    clear hg hle hqg hy ly ry ey s20 hD4 la hp k19 b19 t19 R19 S19 tt19 ma19 Op19 co19 du19
    have glog : ((g : Nat) : Int).natAbs.log2 < 1920 := by
      obtain ⟨q, hq, e⟩ := g1
      have := hw8 q hq
      exact log_small g (by omega)
    dsimp only [List.set_cons_succ, List.set_cons_zero]
    -- needed_values, by place
    refine ⟨_, rfl, _, rfl, _, rfl, _, rfl, rfl, rfl, x, c1, ts, n, first, many, rs, ss, rfl, ma20, ok, hf, co20, hl, hs, pos1, by omega, fun _ => ⟨fun H21 l2 L4 g' s21 Fu2 hlm lots4 g1' g2' => ?_, fun d2 H21 l2 _ _ _ nd2 re2 hlt => ?_⟩, fun h0 => absurd h0 n0⟩
    rotate_left
    · have := few0 l2 nd2 re2
      omega
    obtain rfl := len1 lots4
    obtain rfl := great_one g1 g2 g1' g2'
    refine ⟨_, rfl, glog, _, rfl, _, rfl, glog, rfl, _, rfl, iteFb (by simp) ?_⟩
    have k21 := k20.trans (.same s21)
    have b21 := b20.same s21
    have t21 := tabs_same t20 s21
    have R21 := R20.same s21
    have S21 := S20.same s21
    have tt21 := tt20.same s21
    have ma21 := ma20.same s21
    have Op21 := Op20.kp (.same s21) b20
    have co21 := co20.same s21
    have du21 : LotsAt H21 du L4 := du20.keep fun _ _ e => s21 _ _ e
    clear Fu2 hlm g1' g2' s21 k20 b20 t20 R20 S20 tt20 ma20 Op20 co20 du20
    -- needed_values, by name
    refine ⟨_, rfl, _, rfl, _, rfl, _, rfl, rfl, rfl, x, c1, ts, n, first, many, rs, ss, rfl, ma21, ok, hf, co21, hl, hs, pos1, by omega, fun _ => ⟨fun H22 l2 L5 g'' s22 Fu2 hlm lots5 g1' g2' => ?_, fun d2 H22 l2 _ _ _ nd2 re2 hlt => ?_⟩, fun h0 => absurd h0 n0⟩
    rotate_left
    · have := few0 l2 nd2 re2
      omega
    obtain rfl := len1 lots5
    obtain rfl := great_one g1 g2 g1' g2'
    refine ⟨_, rfl, rfl, _, rfl, iteFb (by simp) ?_⟩
    have k22 := k21.trans (.same s22)
    have b22 := b21.same s22
    have t22 := tabs_same t21 s22
    have R22 := R21.same s22
    have S22 := S21.same s22
    have tt22 := tt21.same s22
    have ma22 := ma21.same s22
    have Op22 := Op21.kp (.same s22) b21
    have co22 := co21.same s22
    have du22 : LotsAt H22 du L5 := du21.keep fun _ _ e => s22 _ _ e
    clear Fu2 hlm g1' g2' s22 k21 b21 t21 R21 S21 tt21 ma21 Op21 co21 du21
    dsimp only [List.set_cons_succ, List.set_cons_zero]
    -- so many at most
    refine ⟨_, rfl, b, 20, rfl, b22, by omega, by omega, fun le H23 hle s23 b23 => rI0n (c := le + 1) (congrArg V.int (by omega)) ?_⟩
    have k2223 : Kp b H22 H23 := .sx s23
    have k23 := k22.trans k2223
    have t23 := tabs_sx t22 b22 s23
    have R23 := R22.kp k2223 nDb
    have S23 := S22.kp k2223 nD2b
    have tt23 := tt22.kp k2223 b22
    have ma23 := ma22.kp k2223 b22
    have Op23 := Op22.kp k2223 b22
    have co23 := co22.kp k2223 b22
    have du23 := du22.kp k2223 b22
    clear s23 k2223 k22 t22 R22 S22 tt22 ma22 Op22 co22 du22 b22
    -- what is heard of open_lots
    change tSeq (tAsg (tLam _ _ _) _) _ _ _ _
    refine seq_by (fun σ' H' => ∃ p, σ' = [some (V.ref a), some (nV i), some (V.ref b), some (V.ref tt), some (nV first), some (V.ref x), some (V.int ↑ts.length), some (V.ref D), some (V.ref D2), some (V.ref d), some (V.ref du), some (V.ref c1), some (V.int ↑many), some (nV g''), some (nV (le + 1)), some (V.ref p), v16, v17, v18, v19, v20] ∧ Kp b H23 H' ∧ Bx H' b ∧ Tabs TT H' ∧ LotsAt H' du L5 ∧ Heard K H' p (lotsD L5) (le + 1) many) ?_ fun hb => ?_
    rotate_left
    · refine ⟨t23, fun H24 ext24 t24 => ?_⟩
      have k24 : Kp b H23 H24 := .ext ext24
      have b24 : Bx H24 b := let ⟨x, y, e⟩ := b23; ⟨x, y, ext24 _ _ e (fun _ z => nomatch z)⟩
      refine ⟨_, rfl, _, rfl, _, rfl, _, rfl, rfl, rfl, x, c1, ts, n, first, le + 1, rs, ss, rfl, ma23.kp k24 b23, ok, hf, co23.kp k24 b23, hl, hs, by omega, by omega, fun _ => ⟨fun H25 p25 l2 L6 s25 Fu2 hlm hL6 lots6 => ⟨by show 2 ≤ sizeLine; omega, fun hp nhp => ?_⟩, fun d2 H25 l2 s25 nd25 hx25 nd2 re2 hlt => .inl ⟨rfl, d2, _, rfl, hx25, fun hp nhp => ?_⟩⟩, fun h0 => absurd h0 n0⟩
      · obtain rfl := len1 lots6
        have s26 := s25.trans (Same.upd nhp (o := .tup [V.str "told", V.ref p25]))
        refine hb _ _ ⟨hp, rfl, k24.trans (.same s26), b24.same s26, tabs_same t24 s26, ((du23.kp k24 b23).keep fun _ _ e => s26 _ _ e), .inl ⟨_, upd_same, fun H' s' => dp_lots (hL6.keep fun _ _ e => s' _ _ ((Same.upd nhp) _ _ e))⟩⟩
      · have := few0 l2 nd2 re2
        have s26 := s25.trans (Same.upd nhp (o := .tup [V.str "great", nV (le + 1), V.bl true]))
        exact hb _ _ ⟨hp, rfl, k24.trans (.same s26), b24.same s26, tabs_same t24 s26, ((du23.kp k24 b23).keep fun _ _ e => s26 _ _ e), .inr ⟨upd_same, by omega⟩⟩
    rintro σ26 H26 ⟨p26, rfl, k26, b26, t26, du26, hh⟩
    refine heard_if (j := 10) rfl rfl rfl rfl (fun H' s' => dp_lots (du26.keep fun _ _ e => s' _ _ e)) (lay_lots _) (by have := depth_lots L5; omega) (eqv_lots _) hh fun H27 s27 => ?_
    have k27 := k26.trans (.same s27)
    have b27 := b26.same s27
    have t27 := tabs_same t26 s27
    clear hh du26 k26 b26 t26 s27
    -- what is heard of needed_values
    change tSeq (tAsg (tLam _ _ _) _) _ _ _ _
    refine seq_by (fun σ' H' => ∃ p, σ' = [some (V.ref a), some (nV i), some (V.ref b), some (V.ref tt), some (nV first), some (V.ref x), some (V.int ↑ts.length), some (V.ref D), some (V.ref D2), some (V.ref d), some (V.ref du), some (V.ref c1), some (V.int ↑many), some (nV g''), some (nV (le + 1)), some (V.ref p), v16, v17, v18, v19, v20] ∧ Kp b H23 H' ∧ Bx H' b ∧ Tabs TT H' ∧ Heard K H' p (.int (g'' : Nat)) (le + 1) many) ?_ fun hb => ?_
    rotate_left
    · refine ⟨t27, fun H24 ext24 t24 => ?_⟩
      have k24 : Kp b H23 H24 := k27.trans (.ext ext24)
      have b24 : Bx H24 b := let ⟨x, y, e⟩ := b27; ⟨x, y, ext24 _ _ e (fun _ z => nomatch z)⟩
      refine ⟨_, rfl, _, rfl, _, rfl, _, rfl, rfl, rfl, x, c1, ts, n, first, le + 1, rs, ss, rfl, ma23.kp k24 b23, ok, hf, co23.kp k24 b23, hl, hs, by omega, by omega, fun _ => ⟨fun H25 l2 L6 g6 s25 Fu2 hlm lots6 g1' g2' => ⟨by show 2 ≤ sizeLine; omega, fun hp nhp => ?_⟩, fun d2 H25 l2 s25 nd25 hx25 nd2 re2 hlt => .inl ⟨rfl, d2, _, rfl, hx25, fun hp nhp => ?_⟩⟩, fun h0 => absurd h0 n0⟩
      · obtain rfl := len1 lots6
        obtain rfl := great_one g1 g2 g1' g2'
        have s26 := s25.trans (Same.upd nhp (o := .tup [V.str "told", nV g6]))
        refine hb _ _ ⟨hp, rfl, k24.trans (.same s26), b24.same s26, tabs_same t24 s26, .inl ⟨_, upd_same, fun H' s' => .int _⟩⟩
      · have := few0 l2 nd2 re2
        have s26 := s25.trans (Same.upd nhp (o := .tup [V.str "great", nV (le + 1), V.bl true]))
        exact hb _ _ ⟨hp, rfl, k24.trans (.same s26), b24.same s26, tabs_same t24 s26, .inr ⟨upd_same, by omega⟩⟩
    rintro σ28 H28 ⟨p28, rfl, k28, b28, t28, hh⟩
    refine heard_if (j := 13) rfl rfl rfl rfl (fun H' s' => .int _) (by rfl) (by show 0 ≤ 50; omega) (by simp [PyData.eqv]) hh fun H29 s29 => ?_
    have k29 := k28.trans (.same s29)
    have b29 := b28.same s29
    have t29 := tabs_same t28 s29
    clear hh k28 b28 t28 s29
    refine iteFb rfl ?_
    -- one showing
    refine ⟨_, rfl, _, rfl, _, rfl, _, rfl, _, rfl, _, rfl, _, rfl, b, x, tt, D, D2, d, ts, n, first, rs, ss, l, rfl, b29, ma23.kp k29 b23, tt23.kp k29 b23, ok, hf, R23.kp k29 nDb, S23.kp k29 nD2b, nDb, nD2b, hl, hs, hpos, r4, s2', Fu, hl5, Op23.kp k29 b23, t29, fun H30 k2930 b30 t30 => ⟨_, rfl, iteFb rfl ?_⟩⟩
    have k30 := k29.trans k2930
    have tt30 := tt23.kp k30 b23
    obtain ⟨as2, ha1, ha2⟩ := id tt30
    obtain ⟨row0, hrow0⟩ := get_lt (show 0 < ts.length by omega)
    obtain ⟨a0, ha0, hat0⟩ := paired_at ha2 hrow0
    have hrl := ok.len _ (List.mem_of_getElem? hrow0)
    have n8 := ok.n8
    have n1 := ok.n1
    -- another first one
    refine ⟨_, rfl, _, rfl, _, _, _, _, rfl, rfl, SqT.of ha1, atI_nat (j := 0) (by rw [List.getElem?_map, ha0]; rfl), a0, _, rfl, .inr (TN.sq hat0), b, (nVs row0).length, rfl, b30, by rw [nVs_len]; omega, by rw [nVs_len]; omega, fun first2 H31 hf2 s31 b31 => ?_⟩
    rw [nVs_len, hrl] at hf2
    have k3031 : Kp b H30 H31 := .sx s31
    have k31 := k30.trans k3031
    have t31 := tabs_sx t30 b30 s31
    have tt31 := tt23.kp k31 b23
    have R31 := R23.kp k31 nDb
    have S31 := S23.kp k31 nD2b
    clear Fu lots g1 g2 few0 len1 hw8 ra rb rc rd Op23 du23 s31 k3031 k29 k30 t30 tt30 ha1 ha2 ha0 hat0 t29 b29
    refine ⟨_, rfl, _, rfl, _, rfl, _, rfl, by show 1 ≤ sizeLine; omega, fun z nz => ⟨by show 1 ≤ sizeLine; omega, fun z2 nz2 => ⟨_, rfl, z2, _, _, rfl, rfl, upd_same, by omega, by omega, by simp; omega, fun wt nwt => ?_⟩⟩⟩
    have s32 := ((Same.upd nz (o := .tup [V.int 0])).trans (Same.upd nz2 (o := .lst [.ref z]))).trans (Same.upd nwt (o := .lst (List.replicate ((((ts.length : Nat) : Nat) : Int)).toNat [V.ref z]).flatten))
    have w32 : WitAt (upd (upd (upd H31 z (.tup [V.int 0])) z2 (.lst [.ref z])) wt (.lst (List.replicate (((ts.length : Nat) : Int)).toNat [V.ref z]).flatten)) wt ts.length := ⟨z, by rw [upd_same, Int.toNat_natCast, refs_repl], (Same.upd nwt) _ _ ((Same.upd nz2) _ _ upd_same)⟩
    refine ⟨tt, D, D2, wt, ts, n, first2, rs, ss, rfl, tt31.same s32, ok, hf2, R31.same s32, S31.same s32, hl, hs, w32, fun H33 d2 l2 s33 nd33 Fu hl52 Op => ?_, fun H33 l2 s33 _ _ _ => ?_⟩
    rotate_left
    · refine ⟨_, rfl, rfl, _, rfl, iteFb rfl ?_⟩
      have s := s32.trans s33
      exact ⟨_, _, _, _, _, _, _, _, _, _, _, _, _, _, _, _, _, _, _, _, rfl, SqL.kp0 hS0 nb s1 ((k23.trans k31).trans (.same s)), tabs_same t31 s⟩
    have s3133 := s32.trans s33
    obtain ⟨ks2, A2, O⟩ := Op.rows
    have k33 := k31.trans (.same s3133)
    have b33 := b31.same s3133
    have t33 := tabs_same t31 s3133
    clear s32 s33 s3133 w32 k31 b31 t31 R31 S31 tt31 nz nz2 nwt
    have rows := op_rows ok hf2 hl hpos r4 s2' Fu O
    refine ⟨_, rfl, rfl, _, rfl, iteTb rfl ?_⟩
    dsimp only [List.set_cons_succ, List.set_cons_zero]
    refine due_read O hl52 (fun a ha => ⟨(rows a ha).1, (rows a ha).2.2.1⟩) fun H34 du2 L2 s34 hL lots inA Ll => ?_
    obtain ⟨ra, rb, rc, rd⟩ := op_repr rows inA (by omega : L2.length ≤ 7000)
    have few0 := op_room Fu O
    have cnt2 := op_cnt O
    have k34 := k33.trans (.same s34)
    have b34 := b33.same s34
    have t34 := tabs_same t33 s34
    refine ⟨_, rfl, _, rfl, _, rfl, rfl, rfl, x, c1, ts, n, first2, 6000, rs, ss, rfl, ma23.kp k34 b23, ok, hf2, co23.kp k34 b23, hl, hs, by omega, by omega, fun _ => ⟨fun H35 p35 l3 L3 s35 Fu3 hlm hL3 lots3 => ?_, fun d2 H35 l3 _ _ _ nd3 re3 hlt => ?_⟩, fun h0 => absurd h0 n0⟩
    rotate_left
    · have := few0 l3 nd3 re3
      omega
    obtain rfl := op_one Fu lots lots3
    have du35 : LotsAt H35 du2 L3 := hL.keep fun _ _ e => s35 _ _ e
    refine ⟨p35, lotsD L3, rfl, dp_lots hL3, ra, rb, rc, rd, _, rfl, du2, lotsD L3, rfl, dp_lots du35, ra, rb, rc, rd, rfl, _, rfl, iteFb (by simp) ?_⟩
    exact ⟨_, _, _, _, _, _, _, _, _, _, _, _, _, _, _, _, _, _, _, _, rfl, SqL.kp0 hS0 nb s1 ((k23.trans k34).trans (.same s35)), tabs_same t34 s35⟩
  · rintro σ H0 ⟨v1, v2, v3, v4, v5, v6, v7, v8, v9, v10, v11, v12, v13, v14, v15, v16, v17, v18, v19, v20, rfl, hS0, hT0⟩
    exact q _
end
end Ow

/-! ## W26 -/
set_option Elab.async false
set_option linter.all false
set_option maxRecDepth 100000
set_option maxHeartbeats 4000000
/-! The law's own call, at a place where no repr runs: the tables and the script are what is known at its start. -/
namespace Ow
open PySem PySem.Spec PyProof.Rows L2 LamX
/-- what is known at the start -/
def begH (K : PySem.W.Frag) (tabs : List Addr) (a : Addr) (vs : List Value) (ns : List Int) : Hp := fun b =>
  if b ∈ tabs then some (.tbl #[]) else if b = a then (match K.lookup a with | some _ => none | none => some (.frz { cls := .type "list", data := .seq vs.toArray } (.lst (ns.map V.int)))) else none
abbrev tabO : Obj := { cls := .none, data := .fields #[] }
abbrev scrO (vs : List Value) : Obj := { cls := .type "list", data := .seq vs.toArray }
section
variable {K : PySem.W.Frag} {tabs : List Addr} {a : Addr} {vs : List Value} {ns : List Int}
theorem begH_tab {b : Addr} (h : b ∈ tabs) : begH K tabs a vs ns b = some (.tbl #[]) := by unfold begH; exact if_pos h
theorem begH_of {b : Addr} {u : HO} (h : begH K tabs a vs ns b = some u) : (b ∈ tabs ∧ u = .tbl #[]) ∨ (b = a ∧ K.lookup a = none ∧ u = .frz (scrO vs) (.lst (ns.map V.int))) := by
  unfold begH at h
  by_cases h1 : b ∈ tabs
  · rw [if_pos h1] at h
    cases h
    exact .inl ⟨h1, rfl⟩
  · rw [if_neg h1] at h
    by_cases h2 : b = a
    · rw [if_pos h2] at h
      cases hk : K.lookup a with
      | some o => rw [hk] at h; cases h
      | none =>
        rw [hk] at h
        cases h
        exact .inr ⟨h2, rfl, rfl⟩
    · rw [if_neg h2] at h
      cases h
theorem begH_scr (h1 : a ∉ tabs) (h2 : K.lookup a = none) : begH K tabs a vs ns a = some (.frz (scrO vs) (.lst (ns.map V.int))) := by
  unfold begH
  rw [if_neg h1, if_pos rfl, h2]
end
section
variable {P : Program} {w : World} {K : PySem.W.Frag} {mg mb : Str → Option Value} {k : Nat} {fa a : Addr} {cs : List (Addr × Addr)} {fd : FuncData} {x : Str} {sp : Sp} {s : Shared} {vs : List Value} {ns : List Int}
theorem call_begin (kx : K.In s.heap) (gl : s.heap.Ns mainGlobals mg) (bl : s.heap.Ns builtinsNs mb) (bb : ∀ y : Str, y ≠ "__name__" → mb y = bootBuiltins y) (lim : s.heap.NoLimit) (gen : s.gens = #[])
    (tb : ∀ p ∈ cs, s.heap.get? p.2 = some tabO) (tk : ∀ p ∈ cs, K.lookup p.2 = none) (cd : ∀ p ∈ cs, PySem.W.CodeHd s.heap p.1 p.2)
    (bm : ∃ (m : Addr) (o : Obj), mg "__builtins__" = some (.ref m) ∧ m ≠ builtinsNs ∧ s.heap.get? m = some o ∧ o.cls = .type "module" ∧ o.dict = some builtinsNs ∧ o.data = .plain)
    (at_ : s.heap.get? a = some (scrO vs)) (it : IntsAre vs ns) (few : ns.length ≤ sizeLine) (room : Room k callerA)
    (fn : ∀ base : Heap, K.In base → base.Ns mainGlobals mg → (∀ p ∈ cs, TabB base mg p.1 p.2) → FnG P w K mg base CX0 k fa fd [x] sp) (bi : ∀ (t : Shared) (u : Value), BindsTo t fd ⟨[u], []⟩ [(x, u)])
    (pr : ∀ H : Hp, (∀ p ∈ cs, H p.2 = some (.tbl #[])) → SqL K H a (ns.map V.int) → sp [.ref a] H (fun v _ => v = .bl true) fun _ _ _ => False) :
    codeAny (model P w) callerA (.call (.ref fa) ⟨[.ref a], []⟩) (fun r t => r = .ok (.ret (.bool true)) ∧ OldK s.heap t.heap ∧ t.os = s.os ∧ AllBare t.gens) s := by
  have rel := vals_ints it
  have vl : vs.length = ns.length := it.length
  have mem : ∀ p ∈ cs, p.2 ∈ cs.map (·.2) := fun p hp => List.mem_map.mpr ⟨p, hp, rfl⟩
  have back : ∀ b ∈ cs.map (·.2), ∃ p ∈ cs, p.2 = b := fun b hb => List.mem_map.mp hb
  have tget : ∀ b ∈ cs.map (·.2), s.heap.get? b = some tabO := fun b hb => by
    obtain ⟨p, hp, rfl⟩ := back b hb
    exact tb p hp
  have na : a ∉ cs.map (·.2) := fun z => by
    have e := (tget a z).symm.trans at_
    have e2 : (tabO).data = (scrO vs).data := congrArg Obj.data (Option.some.inj e)
    cases e2
  generalize hT : cs.map (·.2) = T at mem back tget na
  generalize hH : begH K T a vs ns = H
  have kinds : ∀ {b : Addr} {u : HO}, H b = some u → (b ∈ T ∧ u = .tbl #[]) ∨ (b = a ∧ K.lookup a = none ∧ u = .frz (scrO vs) (.lst (ns.map V.int))) := fun e => begH_of (by rw [hH]; exact e)
  have htab : ∀ b ∈ T, H b = some (.tbl #[]) := fun b hb => by rw [← hH]; exact begH_tab hb
  have hok : HOk P w H s.heap := fun b u e => by
    rcases kinds e with ⟨z, rfl⟩ | ⟨rfl, _, rfl⟩
    · exact tget b z
    · exact ⟨at_, by rw [List.length_map]; exact few, vs, _, rel, at_⟩
  have sq : SqL K H a (ns.map V.int) := by
    cases hk : K.lookup a with
    | none => exact .inl (.inr ⟨scrO vs, by rw [← hH]; exact begH_scr na hk⟩)
    | some o =>
      have e := (kx a o hk).symm.trans at_
      cases e
      exact .inr ⟨_, vs.toArray, _, hk, rfl, rfl, rfl, by rw [List.size_toArray, vl]; exact few, by simpa using rel⟩
  have free : ∀ {b : Addr} {o : Obj}, s.heap.get? b = some o → (∀ xs m, o.data ≠ .seq xs m) → o.data ≠ .fields #[] → H b = none := fun {b o} e n1 n2 => by
    cases q : H b with
    | none => rfl
    | some u =>
      rcases kinds q with ⟨z, _⟩ | ⟨rfl, _, _⟩
      · have e2 := e.symm.trans (tget b z)
        cases e2
        exact absurd rfl n2
      · have e2 := e.symm.trans at_
        cases e2
        exact absurd rfl (n1 _ _)
  have into : ∀ {b : Addr} {o : Obj}, s.heap.get? b = some o → H b = none → (hidT s.heap H).get? b = some o := fun e n => hidT_get e n
  have nsOf : ∀ {b : Addr} {m : Str → Option Value}, s.heap.Ns b m → (hidT s.heap H).Ns b m := fun {b m} ⟨o, es, ep, e, d, r⟩ =>
    ⟨o, es, ep, into e (free e (fun xs i z => by rw [d] at z; cases z) fun z => by rw [d] at z; cases z), d, r⟩
  have kin : K.In (hidT s.heap H) := fun b o e => into (kx b o e) (by
    cases q : H b with
    | none => rfl
    | some u =>
      rcases kinds q with ⟨z, _⟩ | ⟨rfl, n, _⟩
      · obtain ⟨p, hp, rfl⟩ := back b z
        rw [tk p hp] at e
        cases e
      · rw [n] at e
        cases e)
  have hmod : L2.Mod K mg (hidT s.heap H) := by
    obtain ⟨mc, l1, l2⟩ := lim
    exact ⟨kin, nsOf gl, ⟨mb, nsOf bl, bb⟩, ⟨mc, nsOf l1, l2⟩⟩
  have tabB : ∀ p ∈ cs, TabB (hidT s.heap H) mg p.1 p.2 := fun p hp => by
    refine ⟨?_, ?_, fun z => ?_⟩
    · obtain ⟨o, us, fl, tf, fg, tg, inF, tx, tt, q1, q2, q3, q4, q5⟩ := cd p hp
      refine ⟨o, us, fl, tf, fg, tg, inF, tx, tt, into q1 (free q1 (fun xs m z => ?_) fun z => ?_), q2, q3, q4, q5⟩
      · rw [q3] at z
        cases z
      · rw [q3] at z
        cases z
        simp at q4
    · obtain ⟨m, o, b1, b2, b3, b4, b5, b6⟩ := bm
      refine ⟨m, o, b1, b2, fun z => ?_, fun z => ?_, into b3 (free b3 (fun xs i z => ?_) fun z => ?_), b4, b5, b6⟩
      · obtain ⟨o2, es, ep, e, d, _⟩ := gl
        rw [z, e] at b3
        cases b3
        rw [d] at b6
        cases b6
      · rw [z, tb p hp] at b3
        cases b3
        cases b6
      · rw [b6] at z
        cases z
      · rw [b6] at z
        cases z
    · obtain ⟨o, es, ep, e, d, _⟩ := gl
      rw [z, tb p hp] at e
      cases e
      cases d
  have env : Env0 P w K mg (hidT s.heap H) callerA [] s H :=
    ⟨rfl, hmod, fun _ _ e => of_hidT e, Nat.le_of_eq (hidT_size _ _), trivial, fun b hb => (List.not_mem_nil (show b ∈ ([] : List Addr) from hb)).elim, hok, .of_eq gen⟩
  refine codeAny_mono ((fn _ kin (nsOf gl) tabB).run callerA [] s H ⟨[.ref a], []⟩ [.ref a] [.ref a] _ _ rfl room env (bi s (.ref a)) (.cons rfl .nil) (pr H (fun p hp => htab _ (mem p hp)) sq)) fun r t h => ?_
  cases r with
  | error e => exact False.elim h
  | ok fl =>
    cases fl with
    | next => exact h.elim
    | brk => exact h.elim
    | cont => exact h.elim
    | ret u =>
      obtain ⟨v, H', hos, hbare, un, hok2, rv, rfl⟩ := h
      obtain rfl : u = Value.bool true := rv
      have more : ∀ b ∈ T, ∃ m : Array Value, t.heap.get? b = some { cls := .none, data := .fields m } := fun b hb => by
        obtain ⟨m, hm⟩ := un.tbls b #[] (htab b hb)
        exact ⟨_, hok2 b _ hm⟩
      have same : ∀ b o, b ∉ T → s.heap.get? b = some o → t.heap.get? b = some o := fun b o nb e => by
        cases q : H b with
        | none => exact un.keep b o e q (fun z => List.not_mem_nil (show b ∈ ([] : List Addr) from z)) (fun z => List.not_mem_nil z)
        | some u =>
          rcases kinds q with ⟨z, _⟩ | ⟨rfl, _, rfl⟩
          · exact absurd z nb
          · obtain ⟨q1, _⟩ := hok2 b _ (un.frzs b _ _ q)
            rw [e] at at_
            cases at_
            exact q1
      refine ⟨rfl, ⟨fun b o e => ?_, fun b o e => ?_⟩, hos, hbare⟩
      · by_cases hb : b ∈ T
        · obtain ⟨p, hp, rfl⟩ := back b hb
          obtain ⟨m, hm⟩ := more _ hb
          rw [tb p hp] at e
          cases e
          exact .inr (.inl ⟨((cd p hp).tab (tb p hp)).isCodeTable, rfl, #[], m, rfl, by rw [Array.empty_append]; exact hm⟩)
        · exact .inl (same b o hb e)
      · by_cases hb : b ∈ T
        · obtain ⟨m, hm⟩ := more b hb
          exact ⟨_, hm⟩
        · exact ⟨o, same b o hb e⟩
/-- all that the end asks of the law, at the head's heap h -/
def LawG (l : PySem.W.OpenLaw) (w : World) (k n : Nat) (x : Str) (mg : Str → Option Value) (fa : Addr) (h : Heap) : Prop :=
  ∃ (K : PySem.W.Frag) (fd : FuncData) (cs : List (Addr × Addr)) (sp : Sp), K.In h ∧ (∀ p ∈ cs, h.get? p.2 = some tabO) ∧ (∀ p ∈ cs, K.lookup p.2 = none) ∧ (∀ p ∈ cs, PySem.W.CodeHd h p.1 p.2) ∧ (∀ (t : Shared) (u : Value), BindsTo t fd ⟨[u], []⟩ [(x, u)]) ∧
    (∀ (H : Hp) (a : Addr) (ns : List Int), ns.length ≤ n → (∀ p ∈ cs, H p.2 = some (.tbl #[])) → SqL K H a (ns.map V.int) → sp [.ref a] H (fun v _ => v = .bl true) fun _ _ _ => False) ∧
    ∀ base : Heap, K.In base → base.Ns mainGlobals mg → (∀ p ∈ cs, TabB base mg p.1 p.2) → FnG l.prog w K mg base CX0 k fa fd [x] sp
theorem walk_lawG {l : PySem.W.OpenLaw} {n k : Nat} {q : Program} {loose : List Str} {XP : (Str → Option Value) → Heap → Prop} {YP : World → Heap → Prop} {d : DefRec} {x : Str}
    (most : l.most = some n) (fit : n ≤ sizeLine) (nodef : d.params.defaults = []) (room : Room k callerA) (F : ∀ (w : World) (mg : Str → Option Value) (fa : Addr) (h : Heap), YP w h → h.Ns mainGlobals mg → mg d.name = some (.ref fa) → LawG l w k n x mg fa h) :
    PySem.W.WalkO q loose XP YP l.row.toRowW d [] (fun f vs => PySem.call f vs) := by
  refine Att.attach_callB most nodef fun w _ s mg mb fa _ _ _ _ a vs ns G Y _ _ _ hm ho hi hle _ hg => ?_
  obtain ⟨K, fd, cs, sp, kx, tb, tk, cd, bi, pr, fn⟩ := F w mg fa _ Y G.T.g hm
  exact call_begin kx G.T.g G.T.b G.T.builtins G.T.nolimit hg tb tk cd G.T.bmain ho hi (Nat.le_trans hle fit) room fn bi (fun H hH hS => pr H a ns hle hH hS)
end
end Ow

/-! ## W27 -/
set_option Elab.async false
set_option linter.all false
set_option maxRecDepth 100000
set_option maxHeartbeats 16000000
/-! All defs, joined: from what the written part says to the promise of law -/
namespace Ow
open PySem PySem.Spec PyProof.Rows L2 LamX
abbrev s_TooGreat : Stmt := inClass (topS 5) 0
abbrev s_Refused : Stmt := inClass (topS 4) 0
/-- a def that stands at top -/
structure DefF (K : PySem.W.Frag) (x : Str) (st : Stmt) (f : Addr) : Prop where
  at_ : PySem.W.nsIn K mainGlobals x = some (some (.ref f))
  ex : ∃ (oc : Value) (od : Option Addr) (kV doc pm : Value) (an : Option Addr) (cdv ct : Value) (osl : Array (Option Value)), K.lookup f = some ⟨oc, od, .func (PySem.W.fnOf x x (defArgs st) (defBody st) (defScope st) .none kV doc pm an cdv ct), osl⟩ ∧ PySem.W.codeIn K cdv x = true
  kp : PySem.W.keepIn K (.ref f) = true
/-- a def in a class -/
structure DefM (K : PySem.W.Frag) (x q : Str) (st : Stmt) (f : Addr) : Prop where
  ex : ∃ (oc : Value) (od : Option Addr) (kV doc pm : Value) (an : Option Addr) (cdv ct : Value) (osl : Array (Option Value)), K.lookup f = some ⟨oc, od, .func (PySem.W.fnOf x q (defArgs st) (defBody st) (defScope st) .none kV doc pm an cdv ct), osl⟩ ∧ PySem.W.codeIn K cdv q = true
  kp : PySem.W.keepIn K (.ref f) = true
/-- a def that makes lambdas -/
structure DefC (K : PySem.W.Frag) (x : Str) (st : Stmt) (f c : Addr) : Prop where
  at_ : PySem.W.nsIn K mainGlobals x = some (some (.ref f))
  fn : ∃ fd, FunC K x st f fd c
  kp : PySem.W.keepIn K (.ref f) = true
/-- a class that is called -/
structure MakeF (K : PySem.W.Frag) (x : Str) (C f : Addr) : Prop where
  at_ : PySem.W.nsIn K mainGlobals x = some (some (.ref C))
  make : Mk K C f
/-- an own error -/
structure ErrF (P : Program) (K : PySem.W.Frag) (x F q : Str) (st : Stmt) (C f : Addr) : Prop where
  at_ : PySem.W.nsIn K mainGlobals x = some (some (.ref C))
  oex : OexC K C
  init : PySem.W.findIn K (.ref C) "__init__" = some (some (.ref f))
  ty : PySem.W.typeIn K (.ref f) = some (.type "function")
  su : ∃ fd, SuI K P C F q (defArgs st) (defBody st) (defScope st) f fd
  no : PySem.W.findIn K (.ref C) F = some none
  sup : PySem.W.nsIn K mainGlobals "super" = some none
/-- what Hk asks of the written part -/
structure HkF (K : PySem.W.Frag) (cF cB cG cR cN cW cC cM : Addr) : Prop where
  mF : PySem.W.nsIn K mainGlobals "Forgets" = some (some (.ref cF))
  mB : PySem.W.nsIn K mainGlobals "BadShowing" = some (some (.ref cB))
  mN : PySem.W.nsIn K mainGlobals "NoState" = some (some (.ref cN))
  mW : PySem.W.nsIn K mainGlobals "WitnessError" = some (some (.ref cW))
  gF : PySem.W.exmOne K (.ref cG) (.ref cF) = some false
  gB : PySem.W.exmOne K (.ref cG) (.ref cB) = some false
  gG : PySem.W.exmOne K (.ref cG) (.ref cG) = some true
  rF : PySem.W.exmOne K (.ref cR) (.ref cF) = some false
  rB : PySem.W.exmOne K (.ref cR) (.ref cB) = some false
  rG : PySem.W.exmOne K (.ref cR) (.ref cG) = some false
  rR : PySem.W.exmOne K (.ref cR) (.ref cR) = some true
  eG : ExcC K cG
  eR : ExcC K cR
  wG : PySem.W.kitOne K (.ref cG) (.ref cW) = some true
  wR : PySem.W.kitOne K (.ref cR) (.ref cW) = some true
  ha : PySem.W.findIn K (.ref cC) "__class__" = some (some (.builtin "object.__class__"))
  hm : PySem.W.mroIn K cC (.type "object") = some true
  any : PySem.W.kitAny K (.ref cC) [.ref cC, .ref cM] = some true
/-- the names that are built in, and the numbers -/
structure TxF (K : PySem.W.Frag) : Prop where
  n_len : PySem.W.nsIn K mainGlobals "len" = some none
  n_isinstance : PySem.W.nsIn K mainGlobals "isinstance" = some none
  n_int : PySem.W.nsIn K mainGlobals "int" = some none
  n_bool : PySem.W.nsIn K mainGlobals "bool" = some none
  n_list : PySem.W.nsIn K mainGlobals "list" = some none
  n_tuple : PySem.W.nsIn K mainGlobals "tuple" = some none
  n_abs : PySem.W.nsIn K mainGlobals "abs" = some none
  n_all : PySem.W.nsIn K mainGlobals "all" = some none
  n_max : PySem.W.nsIn K mainGlobals "max" = some none
  n_sum : PySem.W.nsIn K mainGlobals "sum" = some none
  n_repr : PySem.W.nsIn K mainGlobals "repr" = some none
  n_set : PySem.W.nsIn K mainGlobals "set" = some none
  n_zip : PySem.W.nsIn K mainGlobals "zip" = some none
  n_range : PySem.W.nsIn K mainGlobals "range" = some none
  n_sorted : PySem.W.nsIn K mainGlobals "sorted" = some none
  n_enumerate : PySem.W.nsIn K mainGlobals "enumerate" = some none
  k_MOST_DEEDS : ∃ t, PySem.W.nsIn K mainGlobals "MOST_DEEDS" = some (some (.int 4 t))
  k_MOST_STATES : ∃ t, PySem.W.nsIn K mainGlobals "MOST_STATES" = some (some (.int 8 t))
  k_MOST_ROUND : ∃ t, PySem.W.nsIn K mainGlobals "MOST_ROUND" = some (some (.int 60 t))
  k_MOST_REST : ∃ t, PySem.W.nsIn K mainGlobals "MOST_REST" = some (some (.int 6 t))
section
variable {P : Program} {w : World} {K : PySem.W.Frag} {mg : Str → Option Value} {base : Heap} {cC cM cT cG cR cF cB cN cW fC fM fT fG fR fwl fgo TT0 : Addr}
theorem mg_at {x : Str} {v : Value} (X : K.In base) (G : base.Ns mainGlobals mg) (e : PySem.W.nsIn K mainGlobals x = some (some v)) : mg x = some v := PySem.W.mg_of X G e
theorem TxF.tx (t : TxF K) (X : K.In base) (G : base.Ns mainGlobals mg) : Tx mg :=
  ⟨PySem.W.mg_none_of X G t.n_len, PySem.W.mg_none_of X G t.n_isinstance, PySem.W.mg_none_of X G t.n_int, PySem.W.mg_none_of X G t.n_bool, PySem.W.mg_none_of X G t.n_list, PySem.W.mg_none_of X G t.n_tuple, PySem.W.mg_none_of X G t.n_abs, PySem.W.mg_none_of X G t.n_all, PySem.W.mg_none_of X G t.n_max, PySem.W.mg_none_of X G t.n_sum, PySem.W.mg_none_of X G t.n_repr, PySem.W.mg_none_of X G t.n_set, PySem.W.mg_none_of X G t.n_zip, PySem.W.mg_none_of X G t.n_range, PySem.W.mg_none_of X G t.n_sorted, PySem.W.mg_none_of X G t.n_enumerate, let ⟨i, e⟩ := t.k_MOST_DEEDS; ⟨i, mg_at X G e⟩, let ⟨i, e⟩ := t.k_MOST_STATES; ⟨i, mg_at X G e⟩, let ⟨i, e⟩ := t.k_MOST_ROUND; ⟨i, mg_at X G e⟩, let ⟨i, e⟩ := t.k_MOST_REST; ⟨i, mg_at X G e⟩⟩
theorem HkF.hk (k : HkF K cF cB cG cR cN cW cC cM) (kl : Kl K cC cM cT) (X : K.In base) (G : base.Ns mainGlobals mg) (eG : ErrF P K "TooGreat" "most" "TooGreat.__init__" s_TooGreat cG fG) (eR : ErrF P K "Refused" "at" "Refused.__init__" s_Refused cR fR) (mC : MakeF K "Counters" cC fC) (mM : MakeF K "Machine" cM fM) : Hk K mg cF cB cG cR cN cW cC cM :=
  ⟨mg_at X G k.mF, mg_at X G k.mB, mg_at X G eG.at_, mg_at X G eR.at_, mg_at X G k.mN, mg_at X G k.mW, mg_at X G mC.at_, mg_at X G mM.at_, k.gF, k.gB, k.gG, k.rF, k.rB, k.rG, k.rR,
    ⟨k.eG.hg, k.eG.hk, k.eG.hs, k.eG.hd⟩, ⟨k.eR.hg, k.eR.hk, k.eR.hs, k.eR.hd⟩, eG.no, eR.no, k.eG, k.eR, k.wG, k.wR, kl.co, k.ha, k.eG.hn, k.eG.ht, k.hm, k.any⟩
theorem cl_of {CX : CXT} {k : Nat} {x : Str} {st : Stmt} {ps : List Str} {sp : Sp} (X : K.In base) (G : base.Ns mainGlobals mg) (D : ∃ f, DefF K x st f)
    (hb : ∀ (kV doc pm : Value) (an : Option Addr) (cdv ct : Value) (us : List Value), us.length = ps.length → bindArgs (PySem.W.fnOf x x (defArgs st) (defBody st) (defScope st) .none kV doc pm an cdv ct) ⟨us, []⟩ = pure (ps.zip us))
    (ok : ∀ f fd, L2.Fun K x x st f fd → FnOk P w K mg base CX k f fd ps sp) : Cl P w K mg base CX k x ps sp [] := by
  obtain ⟨f, D⟩ := D
  obtain ⟨oc, od, kV, doc, pm, an, cdv, ct, osl, l, c⟩ := D.ex
  exact ⟨f, _, [], ok f _ (fun_mk l c D.kp), mg_at X G D.at_, D.kp, .all (hb kV doc pm an cdv ct), .nil⟩
theorem clK_of {CX : CXT} {k n : Nat} {x : Str} {st : Stmt} {ps ks : List Str} {sp : Sp} {gV : List V → List V → List V} (g : List Value → List Value → List Value) (X : K.In base) (G : base.Ns mainGlobals mg) (D : ∃ f, DefF K x st f)
    (hb : ∀ (kV doc pm : Value) (an : Option Addr) (cdv ct : Value) (us ws : List Value), us.length = n → ws.length = ks.length → bindArgs (PySem.W.fnOf x x (defArgs st) (defBody st) (defScope st) .none kV doc pm an cdv ct) ⟨us, ks.zip ws⟩ = pure (ps.zip (g us ws)))
    (hr : ∀ {vs : List V} {us : List Value} {zs : List V} {ws : List Value}, Vals vs us → Vals zs ws → Vals (gV vs zs) (g us ws))
    (ok : ∀ f fd, L2.Fun K x x st f fd → FnOk P w K mg base CX k f fd ps sp) : ClK P w K mg base CX k x ps n ks gV sp := by
  obtain ⟨f, D⟩ := D
  obtain ⟨oc, od, kV, doc, pm, an, cdv, ct, osl, l, c⟩ := D.ex
  exact ⟨f, _, g, ok f _ (fun_mk l c D.kp), mg_at X G D.at_, D.kp, ⟨fun s us ws _ l1 l2 => .of_eq (hb kV doc pm an cdv ct us ws l1 l2), hr⟩⟩
theorem clM_of {CX : CXT} {k : Nat} {x q : Str} {C f : Addr} {st : Stmt} {ps : List Str} {sp : Sp} (X : K.In base) (G : base.Ns mainGlobals mg) (M : MakeF K x C f) (D : DefM K "__init__" q st f)
    (hb : ∀ (kV doc pm : Value) (an : Option Addr) (cdv ct : Value) (us : List Value), us.length = ps.length → bindArgs (PySem.W.fnOf "__init__" q (defArgs st) (defBody st) (defScope st) .none kV doc pm an cdv ct) ⟨us, []⟩ = pure (ps.zip us))
    (ok : ∀ fd, L2.Fun K "__init__" q st f fd → FnOk P w K mg base CX k f fd ps sp) : ClM P w K mg base CX k x C ps sp [] := by
  obtain ⟨oc, od, kV, doc, pm, an, cdv, ct, osl, l, c⟩ := D.ex
  exact ⟨f, _, [], M.make, ok _ (fun_mk l c D.kp), mg_at X G M.at_, .all (hb kV doc pm an cdv ct), .nil⟩
theorem clMe_of {CX : CXT} {k : Nat} {x q : Str} {C f : Addr} {st : Stmt} {ps : List Str} {sp : Sp} (cl : Cls K C) (M : Meth K C x f) (D : DefM K x q st f)
    (hb : ∀ (kV doc pm : Value) (an : Option Addr) (cdv ct : Value) (us : List Value), us.length = ps.length → bindArgs (PySem.W.fnOf x q (defArgs st) (defBody st) (defScope st) .none kV doc pm an cdv ct) ⟨us, []⟩ = pure (ps.zip us))
    (ok : ∀ fd, L2.Fun K x q st f fd → FnOk P w K mg base CX k f fd ps sp) : ClMe P w K mg base CX k C x ps sp := by
  obtain ⟨oc, od, kV, doc, pm, an, cdv, ct, osl, l, c⟩ := D.ex
  exact ⟨f, _, cl, M, ok _ (fun_mk l c D.kp), .all (hb kV doc pm an cdv ct)⟩
theorem clG_of {k : Nat} {x : Str} {st : Stmt} {f c : Addr} {ps : List Str} {sp : Sp} (X : K.In base) (G : base.Ns mainGlobals mg) (D : DefC K x st f c)
    (hb : ∀ (kV doc pm : Value) (an : Option Addr) (cdv ct : Value) (us : List Value), us.length = ps.length → bindArgs (PySem.W.fnOf x x (defArgs st) (defBody st) (defScope st) .none kV doc pm an cdv ct) ⟨us, []⟩ = pure (ps.zip us))
    (ok : ∀ fd, FunC K x st f fd c → FnG P w K mg base CX0 k f fd ps sp) : ClG P w K mg base CX0 k x ps sp := by
  obtain ⟨fd, F⟩ := D.fn
  exact ⟨f, fd, ok fd F, mg_at X G D.at_, D.kp, F.binds hb⟩
theorem clE_of {x F q t : Str} {st : Stmt} {C f : Addr} {j : Nat} {p0 p1 p2 p3 p4 p5 p6 p7 p8 p9 : Pos} (X : K.In base) (G : base.Ns mainGlobals mg) (E : ErrF P K x F q st C f) (hs : defBody st = sBody t j F p0 p1 p2 p3 p4 p5 p6 p7 p8 p9) (hF : F ≠ "self") (hF2 : (F == ("__debug__" : Str)) = false) (hF3 : (F == ("__classdict__" : Str)) = false)
    (hb : ∀ (kV doc pm : Value) (an : Option Addr) (cdv ct : Value) (cc : Addr) (us : List Value), us.length = 2 → bindArgs (PySem.W.ksFn "__init__" q (defArgs st) (defBody st) (defScope st) .none kV doc pm an cdv ct cc) ⟨us, []⟩ = pure ((("self" : Str) :: [F]).zip us))
    (hcall : ∀ env : Env, ∃ pl : Sem Bool, eval (.Call (.Attribute (.Call (.Name "super" p0) [] [] p1) "__init__" p2) [.Constant (.str t) j p3] [] p4) env = (do
      let ov ← attributeBase (.Call (.Name "super" p0) [] [] p1) "__init__" env (eval (.Call (.Name "super" p0) [] [] p1) env)
      standAt p2.atName
      let (f, first) ← holding [ov] (getMethod ov "__init__" pl)
      callWith p4 f first (backTo p4 (starEach [.Constant (.str t) j p3] env)) [])) : ClE P w K mg base x C F := by
  obtain ⟨fd, S⟩ := E.su
  have b : Binds K fd ["self", F] [] := by
    obtain ⟨oc, od, kV, doc, pm, an, ct, osl, cda, cc, ccl, cl, cdd, cld, vs, ccs, csl, file, tf, ar, rfl, _⟩ := S.ex
    exact .all fun us hl => hb kV doc pm an (.ref cda) ct cc us hl
  rw [hs] at S
  exact ⟨f, fd, E.oex, E.init, E.ty, su_ok (k := 0) S E.oex hF hF2 hF3 (PySem.W.mg_none_of X G E.sup) hcall, b, mg_at X G E.at_, E.no⟩
theorem vals_rev {zs : List V} {ws : List Value} (h : Vals zs ws) : Vals zs.reverse ws.reverse := by
  induction h with
  | nil => exact .nil
  | cons r t ih =>
    rw [List.reverse_cons, List.reverse_cons]
    exact ih.append (.cons r .nil)
theorem tabs_begin {T : List (Addr × Str)} {H : Hp} (h : ∀ p ∈ T, H p.1 = some (.tbl #[])) : Tabs T H := fun p hp => ⟨#[], h p hp, trivial, fun pos cv hc => by cases hc⟩
end
section
variable {P : Program} {K : PySem.W.Frag} {x q F : Str} {st : Stmt} {f c C T TT0 : Addr} {oc kV dV doc pm cdv ct : Value} {od an : Option Addr} {osl : Array (Option Value)}
theorem defF_mk (a : PySem.W.nsIn K mainGlobals x = some (some (.ref f))) (l : K.lookup f = some ⟨oc, od, .func (PySem.W.fnOf x x (defArgs st) (defBody st) (defScope st) .none kV doc pm an cdv ct), osl⟩) (h : PySem.W.codeIn K cdv x = true) (k : PySem.W.keepIn K (.ref f) = true) : ∃ f, DefF K x st f :=
  ⟨f, a, ⟨_, _, _, _, _, _, _, _, _, l, h⟩, k⟩
theorem defM_mk (l : K.lookup f = some ⟨oc, od, .func (PySem.W.fnOf x q (defArgs st) (defBody st) (defScope st) .none kV doc pm an cdv ct), osl⟩) (h : PySem.W.codeIn K cdv q = true) (k : PySem.W.keepIn K (.ref f) = true) : DefM K x q st f :=
  ⟨⟨_, _, _, _, _, _, _, _, _, l, h⟩, k⟩
theorem defC_mk (a : PySem.W.nsIn K mainGlobals x = some (some (.ref f))) (l : K.lookup f = some ⟨oc, od, .func (PySem.W.fnOf x x (defArgs st) (defBody st) (defScope st) .none kV doc pm an (.ref c) ct), osl⟩) (h : PySem.W.codeIn K (.ref c) x = true) (k : PySem.W.keepIn K (.ref f) = true) : DefC K x st f c :=
  ⟨a, ⟨_, ⟨_, _, _, _, _, _, _, _, rfl, l, h⟩⟩, k⟩
theorem makeF_mk (a : PySem.W.nsIn K mainGlobals x = some (some (.ref C))) (m : PySem.W.makesIn K C = true) (i : PySem.W.findIn K (.ref C) "__init__" = some (some (.ref f))) (n : PySem.W.isFn K (.ref f) = true) (k : PySem.W.keepIn K (.ref C) = true) : MakeF K x C f := ⟨a, m, i, n, k⟩
theorem funD_mk {ot : Value} {dt : Option Addr} {slt : Array (Option Value)} {nt : Nat} (l : K.lookup f = some ⟨oc, od, .func (PySem.W.fnOf x q (defArgs st) (defBody st) (defScope st) (.ref T) kV doc pm an cdv ct), osl⟩) (h : PySem.W.codeIn K cdv q = true) (e : K.lookup T = some ⟨ot, dt, .seq #[.ref TT0] nt, slt⟩) (k : PySem.W.keepIn K (.ref f) = true) :
    ∃ fd, FunD K x q (defArgs st) (defBody st) (defScope st) [.ref TT0] [] f fd :=
  ⟨_, ⟨_, _, _, _, _, _, _, _, _, _, rfl, l, h, .inr ⟨List.cons_ne_nil _ _, T, _, [.ref TT0], nt, rfl, e, rfl, .cons rfl .nil⟩, .inl rfl⟩, k⟩
theorem emptyT_mk {slt : Array (Option Value)} {nt : Nat} (e : K.lookup T = some ⟨.type "tuple", none, .seq #[] nt, slt⟩) : EmptyT K T := ⟨_, nt, e, rfl, rfl, rfl⟩
theorem suI_mk {cda cc : Addr} {ccl cl : Value} {cdd cld : Option Addr} {vs : Array Value} {ccs csl : Array (Option Value)} {file : Str} {tf : Tok} {ar : Arg}
    (l : K.lookup f = some ⟨oc, od, .func (PySem.W.ksFn "__init__" q (defArgs st) (defBody st) (defScope st) .none kV doc pm an (.ref cda) ct cc), osl⟩) (h : PySem.W.codeIn K (.ref cda) q = true) (lc : K.lookup cda = some ⟨ccl, cdd, .fields vs, ccs⟩) (v2 : vs[2]? = some (.str file tf)) (fe : ((P.main.file : Str) == file) = true)
    (lcc : K.lookup cc = some ⟨cl, cld, .cell (some (.ref C)), csl⟩) (hd : ((defArgs st).posonlyargs ++ (defArgs st).args).head? = some ar) (ar1 : ar.arg = "self") (sub : PySem.W.mroIn K C (.ref C) = some true) (sup : PySem.W.ks_superIn K C C "__init__" = some (some (.builtin "ValueError.__init__"))) (opq : PySem.W.nsIn K cStatics "thirdparty.any" = some none)
    (ve : PySem.W.subIn K (.ref C) (.type "ValueError") = some true) (htop : (P.main.scope.names.lookup ("super" : Str)).isSome = false) (l1 : (defScope st).names.lookup ("super" : Str) = some .globalImplicit) (l2 : (defScope st).names.lookup ("__class__" : Str) = some .free) (l3 : (defScope st).names.lookup ("self" : Str) = some .local) (l4 : (defScope st).names.lookup F = some .local)
    (nc : ∀ x ∈ (defScope st).names, x.2 ≠ .cell) (nf : ∀ x ∈ (defScope st).names, x.2 = .free → x.1 = "__class__") (kind : (defScope st).kind = .function) (co : (defScope st).isCoroutine = false) (gen : (defScope st).isGenerator = false) : ∃ fd, SuI K P C F q (defArgs st) (defBody st) (defScope st) f fd :=
  ⟨_, ⟨_, _, _, _, _, _, _, _, cda, cc, _, _, _, _, vs, _, _, file, tf, ar, rfl, l, h, lc, v2, fe, lcc, hd, ar1⟩, sub, sup, opq, ve, htop, l1, l2, l3, l4, nc, nf, kind, co, gen⟩
theorem errF_mk {nm qC : Str} {N : Addr} {bs bm : List Value} {sn : List Str} {sub : List Value} {ab : Bool} {col : Option Bool} {dd : Option Addr} {k0 k1 k2 k3 k5 : Option Value} (a : PySem.W.nsIn K mainGlobals x = some (some (.ref C)))
    (xL : K.lookup C = some (excClassObj nm qC C N bs bm true sn sub ab col dd k0 k1 k2 k3 k5 "ValueError.__new__")) (rv : PySem.HandSPX.refsVE bm = true) (sa : PySem.W.findIn K (.ref C) "__setattr__" = some (some (.builtin "object.__setattr__"))) (exC : PySem.W.subIn K (.ref C) (.type "BaseException") = some true) (tyC : PySem.W.typeIn K (.ref C) = some (.type "type"))
    (kC : PySem.W.keepIn K (.ref C) = true) (i : PySem.W.findIn K (.ref C) "__init__" = some (some (.ref f))) (ty : PySem.W.typeIn K (.ref f) = some (.type "function")) (su : ∃ fd, SuI K P C F q (defArgs st) (defBody st) (defScope st) f fd) (no : PySem.W.findIn K (.ref C) F = some none) (nsup : PySem.W.nsIn K mainGlobals "super" = some none) : ErrF P K x F q st C f :=
  ⟨a, ⟨⟨nm, qC, N, bs, bm, sn, sub, ab, col, dd, k0, k1, k2, k3, k5, xL, rv⟩, sa, exC, tyC, kC⟩, i, ty, su, no, nsup⟩
end
theorem txF_mk {K : PySem.W.Frag} {t0 : Tok} {t1 : Tok} {t2 : Tok} {t3 : Tok} (n0 : PySem.W.nsIn K mainGlobals "len" = some none) (n1 : PySem.W.nsIn K mainGlobals "isinstance" = some none) (n2 : PySem.W.nsIn K mainGlobals "int" = some none) (n3 : PySem.W.nsIn K mainGlobals "bool" = some none) (n4 : PySem.W.nsIn K mainGlobals "list" = some none) (n5 : PySem.W.nsIn K mainGlobals "tuple" = some none) (n6 : PySem.W.nsIn K mainGlobals "abs" = some none) (n7 : PySem.W.nsIn K mainGlobals "all" = some none) (n8 : PySem.W.nsIn K mainGlobals "max" = some none) (n9 : PySem.W.nsIn K mainGlobals "sum" = some none) (n10 : PySem.W.nsIn K mainGlobals "repr" = some none) (n11 : PySem.W.nsIn K mainGlobals "set" = some none) (n12 : PySem.W.nsIn K mainGlobals "zip" = some none) (n13 : PySem.W.nsIn K mainGlobals "range" = some none) (n14 : PySem.W.nsIn K mainGlobals "sorted" = some none) (n15 : PySem.W.nsIn K mainGlobals "enumerate" = some none) (k0 : PySem.W.nsIn K mainGlobals "MOST_DEEDS" = some (some (.int 4 t0))) (k1 : PySem.W.nsIn K mainGlobals "MOST_STATES" = some (some (.int 8 t1))) (k2 : PySem.W.nsIn K mainGlobals "MOST_ROUND" = some (some (.int 60 t2))) (k3 : PySem.W.nsIn K mainGlobals "MOST_REST" = some (some (.int 6 t3))) : TxF K := ⟨n0, n1, n2, n3, n4, n5, n6, n7, n8, n9, n10, n11, n12, n13, n14, n15, ⟨_, k0⟩, ⟨_, k1⟩, ⟨_, k2⟩, ⟨_, k3⟩⟩
section
variable {P : Program} {w : World} {K : PySem.W.Frag} {mg : Str → Option Value} {base : Heap} {cC cM cT cG cR cF cB cN cW fC fM fT fG fR fwl fgo TT0 f1 f2 f3 c1 c2 c3 P1 P2 P3 : Addr} {TT : List (Addr × Str)}
theorem chain {fd3 : FuncData} (X : K.In base) (G : base.Ns mainGlobals mg)
    (D_is_integer : ∃ f, DefF K "is_integer" s_is_integer f)
    (D_is_number : ∃ f, DefF K "is_number" s_is_number f)
    (D_is_below : ∃ f, DefF K "is_below" s_is_below f)
    (D_is_within : ∃ f, DefF K "is_within" s_is_within f)
    (D_is_sequence : ∃ f, DefF K "is_sequence" s_is_sequence f)
    (D_check_rounds : ∃ f, DefF K "check_rounds" s_check_rounds f)
    (D_check_rests : ∃ f, DefF K "check_rests" s_check_rests f)
    (D_need_fit : ∃ f, DefF K "need_fit" s_need_fit f)
    (D_is_finite : ∃ f, DefF K "is_finite" s_is_finite f)
    (D_shown_as : ∃ f, DefF K "shown_as" s_shown_as f)
    (D_shown_of : ∃ f, DefF K "shown_of" s_shown_of f)
    (D_is_shown : ∃ f, DefF K "is_shown" s_is_shown f)
    (D_check_showing : ∃ f, DefF K "check_showing" s_check_showing f)
    (D_shown_next : ∃ f, DefF K "shown_next" s_shown_next f)
    (D_is_table : ∃ f, DefF K "is_table" s_is_table f)
    (D_check_tables : ∃ f, DefF K "check_tables" s_check_tables f)
    (D_need_state : ∃ f, DefF K "need_state" s_need_state f)
    (D_reached : ∃ f, DefF K "reached" s_reached f)
    (D_moves_of : ∃ f, DefF K "moves_of" s_moves_of f)
    (D_need_kept : ∃ f, DefF K "need_kept" s_need_kept f)
    (D_walked : ∃ f, DefF K "walked" s_walked f)
    (D_need_finite : ∃ f, DefF K "need_finite" s_need_finite f)
    (D_open_lots : ∃ f, DefF K "open_lots" s_open_lots f)
    (D_open_lot : ∃ f, DefF K "open_lot" s_open_lot f)
    (D_needed_values : ∃ f, DefF K "needed_values" s_needed_values f)
    (D_law_box : ∃ f, DefF K "_law_box" s_law_box f)
    (D_law_take : ∃ f, DefF K "_law_take" s_law_take f)
    (D_law_pick : ∃ f, DefF K "_law_pick" s_law_pick f)
    (D_law_mixed : ∃ f, DefF K "_law_mixed" s_law_mixed f)
    (D_law_shown : ∃ f, DefF K "_law_shown" s_law_shown f)
    (D_law_opened : ∃ f, DefF K "_law_opened" s_law_opened f)
    (D_law_heard : ∃ f, DefF K "_law_heard" s_law_heard f)
    (D_law_any : ∃ f, DefF K "_law_any" s_law_any f)
    (D_law_led : ∃ f, DefF K "_law_led" s_law_led f)
    (M_Counters : MakeF K "Counters" cC fC) (M_Machine : MakeF K "Machine" cM fM) (M_Trail : MakeF K "Trail" cT fT)
    (I_Counters : ∃ fd, FunD K "__init__" "Counters.__init__" (defArgs s_Counters) (defBody s_Counters) (defScope s_Counters) [.ref TT0] [] fC fd) (I_Machine : DefM K "__init__" "Machine.__init__" s_Machine fM) (I_Trail : DefM K "__init__" "Trail.__init__" s_Trail fT)
    (A_is_within_limit : Meth K cT "is_within_limit" fwl) (I_is_within_limit : DefM K "is_within_limit" "Trail.is_within_limit" s_is_within_limit fwl) (A_go_on : Meth K cT "go_on" fgo) (I_go_on : DefM K "go_on" "Trail.go_on" s_go_on fgo)
    (E_TG : ErrF P K "TooGreat" "most" "TooGreat.__init__" s_TooGreat cG fG) (E_RF : ErrF P K "Refused" "at" "Refused.__init__" s_Refused cR fR) (hE : EmptyT K TT0) (kl : Kl K cC cM cT) (hkF : HkF K cF cB cG cR cN cW cC cM) (txF : TxF K)
    (L_law_beside_right : DefC K "_law_beside_right" s_law_beside_right f1 c1) (L_law_one_right : DefC K "_law_one_right" s_law_one_right f2 c2) (L_law : FunC K "law" s_law f3 fd3 c3)
    (TB_law_beside_right : TabB base mg c1 P1) (m_law_beside_right : (P1, lamQ "_law_beside_right" (defScope s_law_beside_right)) ∈ TT) (u_law_beside_right : ∀ p ∈ TT, p.1 = P1 → p.2 = lamQ "_law_beside_right" (defScope s_law_beside_right))
    (TB_law_one_right : TabB base mg c2 P2) (m_law_one_right : (P2, lamQ "_law_one_right" (defScope s_law_one_right)) ∈ TT) (u_law_one_right : ∀ p ∈ TT, p.1 = P2 → p.2 = lamQ "_law_one_right" (defScope s_law_one_right))
    (TB_law : TabB base mg c3 P3) (m_law : (P3, lamQ "law" (defScope s_law)) ∈ TT) (u_law : ∀ p ∈ TT, p.1 = P3 → p.2 = lamQ "law" (defScope s_law))
    : FnG P w K mg base CX0 14 f3 fd3 ["_law_script"] (spLaw K TT) := by
  have T : Tx mg := txF.tx X G
  have hk : Hk K mg cF cB cG cR cN cW cC cM := hkF.hk kl X G E_TG E_RF M_Counters M_Machine
  have R_TG : ClE P w K mg base "TooGreat" cG "most" := clE_of X G E_TG rfl (by decide) (by decide) (by decide) (fun _ _ _ _ _ _ _ us hl => match us, hl with | [_, _], _ => rfl) fun env => ⟨_, rfl⟩
  have R_RF : ClE P w K mg base "Refused" cR "at" := clE_of X G E_RF rfl (by decide) (by decide) (by decide) (fun _ _ _ _ _ _ _ us hl => match us, hl with | [_, _], _ => rfl) fun env => ⟨_, rfl⟩
  have C_is_integer : Cl P w K mg base CX0 1 "is_integer" ["value"] spIsInt [] := cl_of X G D_is_integer (fun _ _ _ _ _ _ us hl => match us, hl with | [_], _ => rfl) fun f fd F => ok_is_integer F T
  have C_is_number : Cl P w K mg base CX0 2 "is_number" ["value"] spIsNum [] := cl_of X G D_is_number (fun _ _ _ _ _ _ us hl => match us, hl with | [_], _ => rfl) fun f fd F => ok_is_number F C_is_integer
  have C_is_below : Cl P w K mg base CX0 3 "is_below" ["value", "most"] spIsBelow [] := cl_of X G D_is_below (fun _ _ _ _ _ _ us hl => match us, hl with | [_, _], _ => rfl) fun f fd F => ok_is_below F C_is_number
  have C_is_within : Cl P w K mg base CX0 2 "is_within" ["value", "least", "most"] spIsWithin [] := cl_of X G D_is_within (fun _ _ _ _ _ _ us hl => match us, hl with | [_, _, _], _ => rfl) fun f fd F => ok_is_within F C_is_integer
  have C_is_sequence : Cl P w K mg base CX0 1 "is_sequence" ["value"] (spIsSeq K) [] := cl_of X G D_is_sequence (fun _ _ _ _ _ _ us hl => match us, hl with | [_], _ => rfl) fun f fd F => ok_is_sequence F T
  have C_check_rounds : Cl P w K mg base CX0 3 "check_rounds" ["value"] spRounds [] := cl_of X G D_check_rounds (fun _ _ _ _ _ _ us hl => match us, hl with | [_], _ => rfl) fun f fd F => ok_check_rounds F T C_is_sequence C_is_within
  have C_check_rests : Cl P w K mg base CX0 3 "check_rests" ["value", "many"] (spRests K) [] := cl_of X G D_check_rests (fun _ _ _ _ _ _ us hl => match us, hl with | [_, _], _ => rfl) fun f fd F => ok_check_rests F T C_is_sequence C_is_within
  obtain ⟨fdC, FC⟩ := I_Counters
  have gC : FnOk P w K mg base CX0 4 fC fdC ["self", "rounds", "rests"] (spCo K cC) := ok_Counters FC T kl C_check_rounds C_check_rests
  have C_Counters : ClM P w K mg base CX0 4 "Counters" cC ["self", "rounds", "rests"] (spCo K cC) [] := by
    obtain ⟨ds, v, b⟩ := FC.binds1 (ps := ["self", "rounds", "rests"]) 3 1 (List.cons_ne_nil _ _) rfl fun T0 kV doc pm an cdv ct us its hl hi => match us, its, hl, hi with | [_, _, _], [_], _, _ => ⟨_, rfl, rfl⟩
    exact ⟨fC, fdC, ds, M_Counters.make, gC, mg_at X G M_Counters.at_, b, v⟩
  have C_Counters1 : ClM P w K mg base CX0 4 "Counters" cC ["self", "rounds", "rests"] (spCo K cC) [.ref TT0] := by
    obtain ⟨ds, v, b⟩ := FC.binds1 (ps := ["self", "rounds", "rests"]) 2 0 (List.cons_ne_nil _ _) rfl fun T0 kV doc pm an cdv ct us its hl hi => match us, its, hl, hi with | [_, _], [_], _, _ => ⟨_, rfl, rfl⟩
    exact ⟨fC, fdC, ds, M_Counters.make, gC, mg_at X G M_Counters.at_, b, v⟩
  have C_need_fit : Cl P w K mg base CX0 1 "need_fit" ["machine", "counters"] (spFit cC cM) [] := cl_of X G D_need_fit (fun _ _ _ _ _ _ us hl => match us, hl with | [_, _], _ => rfl) fun f fd F => ok_need_fit F T kl
  have C_is_finite : Cl P w K mg base CX0 1 "is_finite" ["counters"] (spFinite cC) [] := cl_of X G D_is_finite (fun _ _ _ _ _ _ us hl => match us, hl with | [_], _ => rfl) fun f fd F => ok_is_finite F kl
  have C_shown_as : Cl P w K mg base CX0 1 "shown_as" ["counters", "kind", "many"] (spShAs cC) [] := cl_of X G D_shown_as (fun _ _ _ _ _ _ us hl => match us, hl with | [_, _, _], _ => rfl) fun f fd F => ok_shown_as F kl
  have C_shown_of : Cl P w K mg base CX0 2 "shown_of" ["counters", "row"] (spShOf K cC) [] := cl_of X G D_shown_of (fun _ _ _ _ _ _ us hl => match us, hl with | [_, _], _ => rfl) fun f fd F => ok_shown_of F T kl C_shown_as
  have C_is_shown : Cl P w K mg base CX0 4 "is_shown" ["counters", "kind", "value"] (spIsSh cC) [] := cl_of X G D_is_shown (fun _ _ _ _ _ _ us hl => match us, hl with | [_, _, _], _ => rfl) fun f fd F => ok_is_shown F kl C_is_number C_is_below
  have C_check_showing : Cl P w K mg base CX0 5 "check_showing" ["counters", "value"] (spChSh cC) [] := cl_of X G D_check_showing (fun _ _ _ _ _ _ us hl => match us, hl with | [_, _], _ => rfl) fun f fd F => ok_check_showing F T kl C_is_sequence C_is_shown
  have C_shown_next : Cl P w K mg base CX0 2 "shown_next" ["counters", "showing", "deed"] (spNext cC) [] := cl_of X G D_shown_next (fun _ _ _ _ _ _ us hl => match us, hl with | [_, _, _], _ => rfl) fun f fd F => ok_shown_next F C_shown_as
  have C_is_table : Cl P w K mg base CX0 4 "is_table" ["value", "states"] spIsTab [] := cl_of X G D_is_table (fun _ _ _ _ _ _ us hl => match us, hl with | [_, _], _ => rfl) fun f fd F => ok_is_table F T C_is_sequence C_is_below
  have C_check_tables : Cl P w K mg base CX0 5 "check_tables" ["value"] spTabs [] := cl_of X G D_check_tables (fun _ _ _ _ _ _ us hl => match us, hl with | [_], _ => rfl) fun f fd F => ok_check_tables F T C_is_sequence C_is_table
  have C_Machine : ClM P w K mg base CX0 6 "Machine" cM ["self", "tables"] (spMa cM) [] := clM_of X G M_Machine I_Machine (fun _ _ _ _ _ _ us hl => match us, hl with | [_, _], _ => rfl) fun fd F => ok_Machine F T kl C_check_tables
  have C_need_state : Cl P w K mg base CX0 4 "need_state" ["machine", "state"] (spNeedSt cM) [] := cl_of X G D_need_state (fun _ _ _ _ _ _ us hl => match us, hl with | [_, _], _ => rfl) fun f fd F => ok_need_state F kl C_is_below
  have C_reached : Cl P w K mg base CX0 5 "reached" ["machine", "first"] (spReached cM) [] := cl_of X G D_reached (fun _ _ _ _ _ _ us hl => match us, hl with | [_, _], _ => rfl) fun f fd F => ok_reached F T kl C_need_state
  have C_moves_of : Cl P w K mg base CX0 6 "moves_of" ["machine", "first"] (spMoves cM) [] := cl_of X G D_moves_of (fun _ _ _ _ _ _ us hl => match us, hl with | [_, _], _ => rfl) fun f fd F => ok_moves_of F T kl C_reached
  have C_need_kept : Cl P w K mg base CX0 5 "need_kept" ["machine", "first", "counters"] (spKept cC cM) [] := cl_of X G D_need_kept (fun _ _ _ _ _ _ us hl => match us, hl with | [_, _, _], _ => rfl) fun f fd F => ok_need_kept F C_need_state C_need_fit
  have C_Trail : ClM P w K mg base CX0 3 "Trail" cT ["self", "moves", "start", "counters", "limit", "most"] (spTr cC cT) [] := clM_of X G M_Trail I_Trail (fun _ _ _ _ _ _ us hl => match us, hl with | [_, _, _, _, _, _], _ => rfl) fun fd F => ok_Trail F T kl C_shown_of
  have C_is_within_limit : ClMe P w K mg base CX0 1 cT "is_within_limit" ["self", "showing"] (spLim cC cT) := clMe_of kl.tr A_is_within_limit I_is_within_limit (fun _ _ _ _ _ _ us hl => match us, hl with | [_, _], _ => rfl) fun fd F => ok_is_within_limit F T kl
  have C_go_on : ClMe P w K mg base (L2.CX P w) 3 cT "go_on" ["self"] (spGo cC cT cG) := clMe_of kl.tr A_go_on I_go_on (fun _ _ _ _ _ _ us hl => match us, hl with | [_], _ => rfl) fun fd F => ok_go_on F T kl C_shown_next C_is_within_limit R_TG
  have C_walked : Cl P w K mg base (L2.CX P w) 5 "walked" ["moves", "start", "counters", "limit", "most"] (spWalked cC cG) [] := cl_of X G D_walked (fun _ _ _ _ _ _ us hl => match us, hl with | [_, _, _, _, _], _ => rfl) fun f fd F => ok_walked F kl C_Trail C_go_on
  have C_need_finite : Cl P w K mg base (L2.CX P w) 3 "need_finite" ["counters"] (spNeedFin cC cR) [] := cl_of X G D_need_finite (fun _ _ _ _ _ _ us hl => match us, hl with | [_], _ => rfl) fun f fd F => ok_need_finite F C_is_finite R_RF
  have C_open_lots : ClK P w K mg base (L2.CX P w) 7 "open_lots" ["machine", "first", "counters", "most"] 3 ["most"] gApp (spLots cC cM cG cR) := clK_of (fun us ws => us ++ ws) X G D_open_lots (fun _ _ _ _ _ _ us ws hl hw => match us, ws, hl, hw with | [_, _, _], [_], _, _ => rfl) (fun r r2 => r.append r2) fun f fd F => ok_open_lots F T C_need_kept C_need_finite C_moves_of C_walked
  have C_open_lots0 : ClK P w K mg base (L2.CX P w) 7 "open_lots" ["machine", "first", "counters", "most"] 0 ["most", "counters", "first", "machine"] (fun _ zs => zs.reverse) (spLots cC cM cG cR) := clK_of (fun _ ws => ws.reverse) X G D_open_lots (fun _ _ _ _ _ _ us ws hl hw => match us, ws, hl, hw with | [], [_, _, _, _], _, _ => rfl) (fun _ r2 => vals_rev r2) fun f fd F => ok_open_lots F T C_need_kept C_need_finite C_moves_of C_walked
  have C_open_lot : ClK P w K mg base (L2.CX P w) 7 "open_lot" ["machine", "first", "counters", "showing", "most"] 4 ["most"] gApp (spLot cC cM cG) := clK_of (fun us ws => us ++ ws) X G D_open_lot (fun _ _ _ _ _ _ us ws hl hw => match us, ws, hl, hw with | [_, _, _, _], [_], _, _ => rfl) (fun r r2 => r.append r2) fun f fd F => ok_open_lot F T C_need_kept C_check_showing C_moves_of C_walked
  have C_open_lot0 : ClK P w K mg base (L2.CX P w) 7 "open_lot" ["machine", "first", "counters", "showing", "most"] 0 ["most", "showing", "counters", "first", "machine"] (fun _ zs => zs.reverse) (spLot cC cM cG) := clK_of (fun _ ws => ws.reverse) X G D_open_lot (fun _ _ _ _ _ _ us ws hl hw => match us, ws, hl, hw with | [], [_, _, _, _, _], _, _ => rfl) (fun _ r2 => vals_rev r2) fun f fd F => ok_open_lot F T C_need_kept C_check_showing C_moves_of C_walked
  have C_needed_values : ClK P w K mg base (L2.CX P w) 8 "needed_values" ["machine", "first", "counters", "most"] 3 ["most"] gApp (spNeed cC cM cG cR) := clK_of (fun us ws => us ++ ws) X G D_needed_values (fun _ _ _ _ _ _ us ws hl hw => match us, ws, hl, hw with | [_, _, _], [_], _, _ => rfl) (fun r r2 => r.append r2) fun f fd F => ok_needed_values F T C_open_lots
  have C_needed_values0 : ClK P w K mg base (L2.CX P w) 8 "needed_values" ["machine", "first", "counters", "most"] 0 ["most", "counters", "first", "machine"] (fun _ zs => zs.reverse) (spNeed cC cM cG cR) := clK_of (fun _ ws => ws.reverse) X G D_needed_values (fun _ _ _ _ _ _ us ws hl hw => match us, ws, hl, hw with | [], [_, _, _, _], _, _ => rfl) (fun _ r2 => vals_rev r2) fun f fd F => ok_needed_values F T C_open_lots
  have C_law_box : Cl P w K mg base CX0 1 "_law_box" ["_law_script", "_law_k"] (spBox K) [] := cl_of X G D_law_box (fun _ _ _ _ _ _ us hl => match us, hl with | [_, _], _ => rfl) fun f fd F => ok_law_box F T
  have C_law_take : Cl P w K mg base CX0 1 "_law_take" ["_law_box_here", "_law_many"] (spTake) [] := cl_of X G D_law_take (fun _ _ _ _ _ _ us hl => match us, hl with | [_, _], _ => rfl) fun f fd F => ok_law_take F T
  have C_law_pick : Cl P w K mg base CX0 2 "_law_pick" ["_law_box_here", "_law_some"] (spPick) [] := cl_of X G D_law_pick (fun _ _ _ _ _ _ us hl => match us, hl with | [_, _], _ => rfl) fun f fd F => ok_law_pick F T C_law_take
  have C_law_mixed : Cl P w K mg base CX0 2 "_law_mixed" ["_law_box_here", "_law_many"] (spMixed) [] := cl_of X G D_law_mixed (fun _ _ _ _ _ _ us hl => match us, hl with | [_, _], _ => rfl) fun f fd F => ok_law_mixed F T C_law_take
  have C_law_shown : Cl P w K mg base CX0 1 "_law_shown" ["_law_turn", "_law_rest", "_law_many"] spShown [] := cl_of X G D_law_shown (fun _ _ _ _ _ _ us hl => match us, hl with | [_, _, _], _ => rfl) fun f fd F => ok_law_shown F T
  have C_law_opened : Cl P w K mg base CX0 2 "_law_opened" ["_law_tables_here", "_law_first", "_law_rounds", "_law_rests", "_law_witness", "_law_start"] spOpened [] := cl_of X G D_law_opened (fun _ _ _ _ _ _ us hl => match us, hl with | [_, _, _, _, _, _], _ => rfl) fun f fd F => ok_law_opened F T C_law_shown
  have C_law_heard : ClH K mg := by
    obtain ⟨f, D⟩ := D_law_heard
    obtain ⟨oc, od, kV, doc, pm, an, cdv, ct, osl, l, c⟩ := D.ex
    exact ⟨f, _, fun_mk l c D.kp, mg_at X G D.at_, D.kp, .all fun us hl => match us, hl with | [_], _ => rfl⟩
  have C_law_any : Cl P w K mg base CX0 3 "_law_any" ["_law_box_here", "_law_most", "_law_deeds"] spAny [] := cl_of X G D_law_any (fun _ _ _ _ _ _ us hl => match us, hl with | [_, _, _], _ => rfl) fun f fd F => ok_law_any F T C_law_take C_law_mixed
  have C_law_led : Cl P w K mg base CX0 1 "_law_led" ["_law_tables_here", "_law_first", "_law_numbers"] spLed [] := cl_of X G D_law_led (fun _ _ _ _ _ _ us hl => match us, hl with | [_, _, _], _ => rfl) fun f fd F => ok_law_led F T
  have C_law_beside_right : ClG P w K mg base CX0 12 "_law_beside_right" ["_law_box_here", "_law_machine", "_law_tables_here", "_law_first", "_law_rounds", "_law_rests"] (spBeside cM TT) := clG_of X G L_law_beside_right (fun _ _ _ _ _ _ us hl => match us, hl with | [_, _, _, _, _, _], _ => rfl) fun fd F => ok_law_beside_right F T C_law_heard hk TB_law_beside_right m_law_beside_right u_law_beside_right C_law_take C_law_opened C_Counters C_open_lot
  have C_law_one_right : ClG P w K mg base CX0 13 "_law_one_right" ["_law_box_here", "_law_machine", "_law_tables_here", "_law_first", "_law_rounds", "_law_rests", "_law_opened_here"] (spOneR cM TT) := clG_of X G L_law_one_right (fun _ _ _ _ _ _ us hl => match us, hl with | [_, _, _, _, _, _, _], _ => rfl) fun fd F => ok_law_one_right F T C_law_heard hk TB_law_one_right m_law_one_right u_law_one_right hE C_law_take C_law_led C_law_beside_right C_Counters C_Counters1 C_open_lot C_open_lot0 C_open_lots C_needed_values
  exact ok_law L_law T C_law_heard hk TB_law m_law u_law C_law_box C_law_take C_law_pick C_law_any C_law_opened C_law_one_right C_Counters C_Machine C_open_lots C_open_lots0 C_needed_values C_needed_values0
theorem joined {l : PySem.W.OpenLaw} {w : World} {h : Heap} (X : K.In h) (G : h.Ns mainGlobals mg) {fa : Addr} (hm : mg "law" = some (.ref fa))
    (D_is_integer : ∃ f, DefF K "is_integer" s_is_integer f)
    (D_is_number : ∃ f, DefF K "is_number" s_is_number f)
    (D_is_below : ∃ f, DefF K "is_below" s_is_below f)
    (D_is_within : ∃ f, DefF K "is_within" s_is_within f)
    (D_is_sequence : ∃ f, DefF K "is_sequence" s_is_sequence f)
    (D_check_rounds : ∃ f, DefF K "check_rounds" s_check_rounds f)
    (D_check_rests : ∃ f, DefF K "check_rests" s_check_rests f)
    (D_need_fit : ∃ f, DefF K "need_fit" s_need_fit f)
    (D_is_finite : ∃ f, DefF K "is_finite" s_is_finite f)
    (D_shown_as : ∃ f, DefF K "shown_as" s_shown_as f)
    (D_shown_of : ∃ f, DefF K "shown_of" s_shown_of f)
    (D_is_shown : ∃ f, DefF K "is_shown" s_is_shown f)
    (D_check_showing : ∃ f, DefF K "check_showing" s_check_showing f)
    (D_shown_next : ∃ f, DefF K "shown_next" s_shown_next f)
    (D_is_table : ∃ f, DefF K "is_table" s_is_table f)
    (D_check_tables : ∃ f, DefF K "check_tables" s_check_tables f)
    (D_need_state : ∃ f, DefF K "need_state" s_need_state f)
    (D_reached : ∃ f, DefF K "reached" s_reached f)
    (D_moves_of : ∃ f, DefF K "moves_of" s_moves_of f)
    (D_need_kept : ∃ f, DefF K "need_kept" s_need_kept f)
    (D_walked : ∃ f, DefF K "walked" s_walked f)
    (D_need_finite : ∃ f, DefF K "need_finite" s_need_finite f)
    (D_open_lots : ∃ f, DefF K "open_lots" s_open_lots f)
    (D_open_lot : ∃ f, DefF K "open_lot" s_open_lot f)
    (D_needed_values : ∃ f, DefF K "needed_values" s_needed_values f)
    (D_law_box : ∃ f, DefF K "_law_box" s_law_box f)
    (D_law_take : ∃ f, DefF K "_law_take" s_law_take f)
    (D_law_pick : ∃ f, DefF K "_law_pick" s_law_pick f)
    (D_law_mixed : ∃ f, DefF K "_law_mixed" s_law_mixed f)
    (D_law_shown : ∃ f, DefF K "_law_shown" s_law_shown f)
    (D_law_opened : ∃ f, DefF K "_law_opened" s_law_opened f)
    (D_law_heard : ∃ f, DefF K "_law_heard" s_law_heard f)
    (D_law_any : ∃ f, DefF K "_law_any" s_law_any f)
    (D_law_led : ∃ f, DefF K "_law_led" s_law_led f)
    (M_Counters : MakeF K "Counters" cC fC) (M_Machine : MakeF K "Machine" cM fM) (M_Trail : MakeF K "Trail" cT fT)
    (I_Counters : ∃ fd, FunD K "__init__" "Counters.__init__" (defArgs s_Counters) (defBody s_Counters) (defScope s_Counters) [.ref TT0] [] fC fd) (I_Machine : DefM K "__init__" "Machine.__init__" s_Machine fM) (I_Trail : DefM K "__init__" "Trail.__init__" s_Trail fT)
    (A_is_within_limit : Meth K cT "is_within_limit" fwl) (I_is_within_limit : DefM K "is_within_limit" "Trail.is_within_limit" s_is_within_limit fwl) (A_go_on : Meth K cT "go_on" fgo) (I_go_on : DefM K "go_on" "Trail.go_on" s_go_on fgo)
    (E_TG : ErrF l.prog K "TooGreat" "most" "TooGreat.__init__" s_TooGreat cG fG) (E_RF : ErrF l.prog K "Refused" "at" "Refused.__init__" s_Refused cR fR) (hE : EmptyT K TT0) (kl : Kl K cC cM cT) (hkF : HkF K cF cB cG cR cN cW cC cM) (txF : TxF K)
    (L_law_beside_right : DefC K "_law_beside_right" s_law_beside_right f1 c1) (L_law_one_right : DefC K "_law_one_right" s_law_one_right f2 c2) (L_law : DefC K "law" s_law f3 c3)
    (tb : ∀ a ∈ [P1, P2, P3], h.get? a = some tabO) (tk1 : K.lookup P1 = none) (tk2 : K.lookup P2 = none) (tk3 : K.lookup P3 = none) (th1 : PySem.W.codeHdIn K c1 P1 = true) (th2 : PySem.W.codeHdIn K c2 P2 = true) (th3 : PySem.W.codeHdIn K c3 P3 = true) (p12 : P1 ≠ P2) (p13 : P1 ≠ P3) (p23 : P2 ≠ P3) :
    LawG l w 14 63 "_law_script" mg fa h := by
  have e3 := hm.symm.trans (mg_at X G L_law.at_)
  cases e3
  let TT : List (Addr × Str) := [(P1, lamQ "_law_beside_right" (defScope s_law_beside_right)), (P2, lamQ "_law_one_right" (defScope s_law_one_right)), (P3, lamQ "law" (defScope s_law))]
  have three : ∀ {q : Addr × Addr → Prop}, q (c1, P1) → q (c2, P2) → q (c3, P3) → ∀ p ∈ [(c1, P1), (c2, P2), (c3, P3)], q p := fun a b c p hp => by
    rcases List.mem_cons.mp hp with e | hp
    · rw [e]; exact a
    · rcases List.mem_cons.mp hp with e | hp
      · rw [e]; exact b
      · rw [List.mem_singleton.mp hp]; exact c
  have u1 : ∀ p ∈ TT, p.1 = P1 → p.2 = lamQ "_law_beside_right" (defScope s_law_beside_right) := fun p hp e => by
    rcases List.mem_cons.mp hp with z | hp
    · rw [z]
    · rcases List.mem_cons.mp hp with z | hp
      · rw [z] at e; exact absurd e.symm p12
      · rw [List.mem_singleton.mp hp] at e; exact absurd e.symm p13
  have u2 : ∀ p ∈ TT, p.1 = P2 → p.2 = lamQ "_law_one_right" (defScope s_law_one_right) := fun p hp e => by
    rcases List.mem_cons.mp hp with z | hp
    · rw [z] at e; exact absurd e p12
    · rcases List.mem_cons.mp hp with z | hp
      · rw [z]
      · rw [List.mem_singleton.mp hp] at e; exact absurd e.symm p23
  have u3 : ∀ p ∈ TT, p.1 = P3 → p.2 = lamQ "law" (defScope s_law) := fun p hp e => by
    rcases List.mem_cons.mp hp with z | hp
    · rw [z] at e; exact absurd e p13
    · rcases List.mem_cons.mp hp with z | hp
      · rw [z] at e; exact absurd e p23
      · rw [List.mem_singleton.mp hp]
  obtain ⟨fd, F⟩ := L_law.fn
  refine ⟨K, fd, [(c1, P1), (c2, P2), (c3, P3)], spLaw K TT, X, three (tb _ (by simp)) (tb _ (by simp)) (tb _ (by simp)), three tk1 tk2 tk3, three (PySem.W.codeHd_of_K X th1) (PySem.W.codeHd_of_K X th2) (PySem.W.codeHd_of_K X th3), ?_, fun H a ns _ hH hS => ⟨a, ns, rfl, hS, tabs_begin fun p hp => ?_, fun _ => rfl⟩, fun base X' G' TB => ?_⟩
  · obtain ⟨oc, od, kV, doc, pm, an, ct, osl, rfl, _, _⟩ := F.ex
    exact fun t u => .of_eq rfl
  · rcases List.mem_cons.mp hp with z | hp
    · rw [z]; exact hH (c1, P1) (by simp)
    · rcases List.mem_cons.mp hp with z | hp
      · rw [z]; exact hH (c2, P2) (by simp)
      · rw [List.mem_singleton.mp hp]; exact hH (c3, P3) (by simp)
  · exact chain (TT := TT) (P := l.prog) (w := w) X' G' D_is_integer D_is_number D_is_below D_is_within D_is_sequence D_check_rounds D_check_rests D_need_fit D_is_finite D_shown_as D_shown_of D_is_shown D_check_showing D_shown_next D_is_table D_check_tables D_need_state D_reached D_moves_of D_need_kept D_walked D_need_finite D_open_lots D_open_lot D_needed_values D_law_box D_law_take D_law_pick D_law_mixed D_law_shown D_law_opened D_law_heard D_law_any D_law_led M_Counters M_Machine M_Trail I_Counters I_Machine I_Trail A_is_within_limit I_is_within_limit A_go_on I_go_on E_TG E_RF hE kl hkF txF L_law_beside_right L_law_one_right F (TB (c1, P1) (by simp)) (by simp [TT]) u1 (TB (c2, P2) (by simp)) (by simp [TT]) u2 (TB (c3, P3) (by simp)) (by simp [TT]) u3
end
end Ow

open PySem PySem.W PyProof.Rows
set_option maxRecDepth 100000 in
set_option maxHeartbeats 0 in
theorem PySem.Challenge.cw_onewitness_k07_whole_open_lots_of_any_ma_holds : PySem.Challenge.rw_onewitness_k07_whole_open_lots_of_any_ma.Holds := by
  w_on; o_law; k_head; (case hw => w_witness2)
  k_fill
  refine Ow.walk_lawG (l := PySem.Challenge.rw_onewitness_k07_whole_open_lots_of_any_ma) (n := 63) (k := 14) (x := "_law_script") rfl (by decide) (by kernel_rfl) ⟨rfl, by decide, by decide⟩ ?F
  case F =>
    intro w mg fa h Y G hmg
    refine' Ow.joined (PySem.W.km_in_of Y) G hmg ?D_is_integer ?D_is_number ?D_is_below ?D_is_within ?D_is_sequence ?D_check_rounds ?D_check_rests ?D_need_fit ?D_is_finite ?D_shown_as ?D_shown_of ?D_is_shown ?D_check_showing ?D_shown_next ?D_is_table ?D_check_tables ?D_need_state ?D_reached ?D_moves_of ?D_need_kept ?D_walked ?D_need_finite ?D_open_lots ?D_open_lot ?D_needed_values ?D_law_box ?D_law_take ?D_law_pick ?D_law_mixed ?D_law_shown ?D_law_opened ?D_law_heard ?D_law_any ?D_law_led ?M_Counters ?M_Machine ?M_Trail ?I_Counters ?I_Machine ?I_Trail ?A_is_within_limit ?I_is_within_limit ?A_go_on ?I_go_on ?E_TG ?E_RF ?hE ?kl ?hkF ?txF ?L_law_beside_right ?L_law_one_right ?L_law (PySem.W.km_tabs_of Y) ?tk1 ?tk2 ?tk3 ?th1 ?th2 ?th3 ?p12 ?p13 ?p23
    case D_is_integer =>
      refine' Ow.defF_mk ?a ?l ?c ?k
      (case a => k_is)
      (case l => k_is)
      (case c => k_is)
      (case k => k_is)
    case D_is_number =>
      refine' Ow.defF_mk ?a ?l ?c ?k
      (case a => k_is)
      (case l => k_is)
      (case c => k_is)
      (case k => k_is)
    case D_is_below =>
      refine' Ow.defF_mk ?a ?l ?c ?k
      (case a => k_is)
      (case l => k_is)
      (case c => k_is)
      (case k => k_is)
    case D_is_within =>
      refine' Ow.defF_mk ?a ?l ?c ?k
      (case a => k_is)
      (case l => k_is)
      (case c => k_is)
      (case k => k_is)
    case D_is_sequence =>
      refine' Ow.defF_mk ?a ?l ?c ?k
      (case a => k_is)
      (case l => k_is)
      (case c => k_is)
      (case k => k_is)
    case D_check_rounds =>
      refine' Ow.defF_mk ?a ?l ?c ?k
      (case a => k_is)
      (case l => k_is)
      (case c => k_is)
      (case k => k_is)
    case D_check_rests =>
      refine' Ow.defF_mk ?a ?l ?c ?k
      (case a => k_is)
      (case l => k_is)
      (case c => k_is)
      (case k => k_is)
    case D_need_fit =>
      refine' Ow.defF_mk ?a ?l ?c ?k
      (case a => k_is)
      (case l => k_is)
      (case c => k_is)
      (case k => k_is)
    case D_is_finite =>
      refine' Ow.defF_mk ?a ?l ?c ?k
      (case a => k_is)
      (case l => k_is)
      (case c => k_is)
      (case k => k_is)
    case D_shown_as =>
      refine' Ow.defF_mk ?a ?l ?c ?k
      (case a => k_is)
      (case l => k_is)
      (case c => k_is)
      (case k => k_is)
    case D_shown_of =>
      refine' Ow.defF_mk ?a ?l ?c ?k
      (case a => k_is)
      (case l => k_is)
      (case c => k_is)
      (case k => k_is)
    case D_is_shown =>
      refine' Ow.defF_mk ?a ?l ?c ?k
      (case a => k_is)
      (case l => k_is)
      (case c => k_is)
      (case k => k_is)
    case D_check_showing =>
      refine' Ow.defF_mk ?a ?l ?c ?k
      (case a => k_is)
      (case l => k_is)
      (case c => k_is)
      (case k => k_is)
    case D_shown_next =>
      refine' Ow.defF_mk ?a ?l ?c ?k
      (case a => k_is)
      (case l => k_is)
      (case c => k_is)
      (case k => k_is)
    case D_is_table =>
      refine' Ow.defF_mk ?a ?l ?c ?k
      (case a => k_is)
      (case l => k_is)
      (case c => k_is)
      (case k => k_is)
    case D_check_tables =>
      refine' Ow.defF_mk ?a ?l ?c ?k
      (case a => k_is)
      (case l => k_is)
      (case c => k_is)
      (case k => k_is)
    case D_need_state =>
      refine' Ow.defF_mk ?a ?l ?c ?k
      (case a => k_is)
      (case l => k_is)
      (case c => k_is)
      (case k => k_is)
    case D_reached =>
      refine' Ow.defF_mk ?a ?l ?c ?k
      (case a => k_is)
      (case l => k_is)
      (case c => k_is)
      (case k => k_is)
    case D_moves_of =>
      refine' Ow.defF_mk ?a ?l ?c ?k
      (case a => k_is)
      (case l => k_is)
      (case c => k_is)
      (case k => k_is)
    case D_need_kept =>
      refine' Ow.defF_mk ?a ?l ?c ?k
      (case a => k_is)
      (case l => k_is)
      (case c => k_is)
      (case k => k_is)
    case D_walked =>
      refine' Ow.defF_mk ?a ?l ?c ?k
      (case a => k_is)
      (case l => k_is)
      (case c => k_is)
      (case k => k_is)
    case D_need_finite =>
      refine' Ow.defF_mk ?a ?l ?c ?k
      (case a => k_is)
      (case l => k_is)
      (case c => k_is)
      (case k => k_is)
    case D_open_lots =>
      refine' Ow.defF_mk ?a ?l ?c ?k
      (case a => k_is)
      (case l => k_is)
      (case c => k_is)
      (case k => k_is)
    case D_open_lot =>
      refine' Ow.defF_mk ?a ?l ?c ?k
      (case a => k_is)
      (case l => k_is)
      (case c => k_is)
      (case k => k_is)
    case D_needed_values =>
      refine' Ow.defF_mk ?a ?l ?c ?k
      (case a => k_is)
      (case l => k_is)
      (case c => k_is)
      (case k => k_is)
    case D_law_box =>
      refine' Ow.defF_mk ?a ?l ?c ?k
      (case a => k_is)
      (case l => k_is)
      (case c => k_is)
      (case k => k_is)
    case D_law_take =>
      refine' Ow.defF_mk ?a ?l ?c ?k
      (case a => k_is)
      (case l => k_is)
      (case c => k_is)
      (case k => k_is)
    case D_law_pick =>
      refine' Ow.defF_mk ?a ?l ?c ?k
      (case a => k_is)
      (case l => k_is)
      (case c => k_is)
      (case k => k_is)
    case D_law_mixed =>
      refine' Ow.defF_mk ?a ?l ?c ?k
      (case a => k_is)
      (case l => k_is)
      (case c => k_is)
      (case k => k_is)
    case D_law_shown =>
      refine' Ow.defF_mk ?a ?l ?c ?k
      (case a => k_is)
      (case l => k_is)
      (case c => k_is)
      (case k => k_is)
    case D_law_opened =>
      refine' Ow.defF_mk ?a ?l ?c ?k
      (case a => k_is)
      (case l => k_is)
      (case c => k_is)
      (case k => k_is)
    case D_law_heard =>
      refine' Ow.defF_mk ?a ?l ?c ?k
      (case a => k_is)
      (case l => k_is)
      (case c => k_is)
      (case k => k_is)
    case D_law_any =>
      refine' Ow.defF_mk ?a ?l ?c ?k
      (case a => k_is)
      (case l => k_is)
      (case c => k_is)
      (case k => k_is)
    case D_law_led =>
      refine' Ow.defF_mk ?a ?l ?c ?k
      (case a => k_is)
      (case l => k_is)
      (case c => k_is)
      (case k => k_is)
    case M_Counters =>
      refine' Ow.makeF_mk ?a ?m ?i ?fn ?k
      (case a => k_is)
      (case m => k_is)
      (case i => k_is)
      (case fn => k_is)
      (case k => k_is)
    case M_Machine =>
      refine' Ow.makeF_mk ?a ?m ?i ?fn ?k
      (case a => k_is)
      (case m => k_is)
      (case i => k_is)
      (case fn => k_is)
      (case k => k_is)
    case M_Trail =>
      refine' Ow.makeF_mk ?a ?m ?i ?fn ?k
      (case a => k_is)
      (case m => k_is)
      (case i => k_is)
      (case fn => k_is)
      (case k => k_is)
    case I_Counters =>
      refine' Ow.funD_mk ?l ?c ?e ?k
      (case l => k_is)
      (case c => k_is)
      (case e => k_is)
      (case k => k_is)
    case I_Machine =>
      refine' Ow.defM_mk ?l ?c ?k
      (case l => k_is)
      (case c => k_is)
      (case k => k_is)
    case I_Trail =>
      refine' Ow.defM_mk ?l ?c ?k
      (case l => k_is)
      (case c => k_is)
      (case k => k_is)
    case A_is_within_limit =>
      refine' ⟨?a, ?i, ?k⟩
      (case a => k_is)
      (case i => k_is)
      (case k => k_is)
    case I_is_within_limit =>
      refine' Ow.defM_mk ?l ?c ?k
      (case l => k_is)
      (case c => k_is)
      (case k => k_is)
    case A_go_on =>
      refine' ⟨?a, ?i, ?k⟩
      (case a => k_is)
      (case i => k_is)
      (case k => k_is)
    case I_go_on =>
      refine' Ow.defM_mk ?l ?c ?k
      (case l => k_is)
      (case c => k_is)
      (case k => k_is)
    case E_TG =>
      refine' Ow.errF_mk ?a ?xL ?rv ?sa ?exC ?tyC ?kC ?i ?ty (Ow.suI_mk ?l ?c ?lc ?v2 ?fe ?lcc ?hd ?ar1 ?sub ?sup ?opq ?ve ?htop ?l1 ?l2 ?l3 ?l4 ?nc ?nf ?kind ?co ?gen) ?no ?nsup
      (case a => k_is)
      (case xL => k_is)
      (case rv => kernel_rfl)
      (case sa => k_is)
      (case exC => k_is)
      (case tyC => k_is)
      (case kC => k_is)
      (case i => k_is)
      (case ty => k_is)
      (case l => k_is)
      (case c => k_is)
      (case lc => k_is)
      (case v2 => rfl)
      (case fe => kernel_rfl)
      (case lcc => k_is)
      (case hd => rfl)
      (case ar1 => rfl)
      (case sub => k_is)
      (case sup => kernel_rfl)
      (case opq => k_is)
      (case ve => k_is)
      (case htop => kernel_rfl)
      (case l1 => kernel_rfl)
      (case l2 => kernel_rfl)
      (case l3 => kernel_rfl)
      (case l4 => kernel_rfl)
      (case nc => decide +kernel)
      (case nf => decide +kernel)
      (case kind => rfl)
      (case co => rfl)
      (case gen => rfl)
      (case no => k_is)
      (case nsup => k_is)
    case E_RF =>
      refine' Ow.errF_mk ?a ?xL ?rv ?sa ?exC ?tyC ?kC ?i ?ty (Ow.suI_mk ?l ?c ?lc ?v2 ?fe ?lcc ?hd ?ar1 ?sub ?sup ?opq ?ve ?htop ?l1 ?l2 ?l3 ?l4 ?nc ?nf ?kind ?co ?gen) ?no ?nsup
      (case a => k_is)
      (case xL => k_is)
      (case rv => kernel_rfl)
      (case sa => k_is)
      (case exC => k_is)
      (case tyC => k_is)
      (case kC => k_is)
      (case i => k_is)
      (case ty => k_is)
      (case l => k_is)
      (case c => k_is)
      (case lc => k_is)
      (case v2 => rfl)
      (case fe => kernel_rfl)
      (case lcc => k_is)
      (case hd => rfl)
      (case ar1 => rfl)
      (case sub => k_is)
      (case sup => kernel_rfl)
      (case opq => k_is)
      (case ve => k_is)
      (case htop => kernel_rfl)
      (case l1 => kernel_rfl)
      (case l2 => kernel_rfl)
      (case l3 => kernel_rfl)
      (case l4 => kernel_rfl)
      (case nc => decide +kernel)
      (case nf => decide +kernel)
      (case kind => rfl)
      (case co => rfl)
      (case gen => rfl)
      (case no => k_is)
      (case nsup => k_is)
    case hE =>
      refine' Ow.emptyT_mk ?l
      (case l => k_is)
    case kl =>
      refine' ⟨⟨?ag, ?ad, ?ao, ?as⟩, ?c1, ?c2, ⟨?bg, ?bd, ?bo, ?bs⟩, ?m1, ?m2, ?m3, ⟨?eg, ?ed, ?eo, ?es⟩, ?t1, ?t2, ?t3, ?t4, ?t5, ?t6, ?t7⟩
      (case ag => k_is)
      (case ad => k_is)
      (case ao => k_is)
      (case as => k_is)
      (case c1 => unfold L2.NoAttr; k_is)
      (case c2 => unfold L2.NoAttr; k_is)
      (case bg => k_is)
      (case bd => k_is)
      (case bo => k_is)
      (case bs => k_is)
      (case m1 => unfold L2.NoAttr; k_is)
      (case m2 => unfold L2.NoAttr; k_is)
      (case m3 => unfold L2.NoAttr; k_is)
      (case eg => k_is)
      (case ed => k_is)
      (case eo => k_is)
      (case es => k_is)
      (case t1 => unfold L2.NoAttr; k_is)
      (case t2 => unfold L2.NoAttr; k_is)
      (case t3 => unfold L2.NoAttr; k_is)
      (case t4 => unfold L2.NoAttr; k_is)
      (case t5 => unfold L2.NoAttr; k_is)
      (case t6 => unfold L2.NoAttr; k_is)
      (case t7 => unfold L2.NoAttr; k_is)
    case hkF =>
      refine' ⟨?mF, ?mB, ?mN, ?mW, ?gF, ?gB, ?gG, ?rF, ?rB, ?rG, ?rR, ⟨?p0, ?p1, ?p2, ?p3, ?p4, ?p5, ?p6, ?p7⟩, ⟨?q0, ?q1, ?q2, ?q3, ?q4, ?q5, ?q6, ?q7⟩, ?wG, ?wR, ?ha, ?hm, ?any⟩
      (case mF => k_is)
      (case mB => k_is)
      (case mN => k_is)
      (case mW => k_is)
      (case gF => kernel_rfl)
      (case gB => kernel_rfl)
      (case gG => kernel_rfl)
      (case rF => kernel_rfl)
      (case rB => kernel_rfl)
      (case rG => kernel_rfl)
      (case rR => kernel_rfl)
      (case p0 => k_is)
      (case p1 => k_is)
      (case p2 => k_is)
      (case p3 => k_is)
      (case p4 => k_is)
      (case p5 => k_is)
      (case p6 => k_is)
      (case p7 => k_is)
      (case q0 => k_is)
      (case q1 => k_is)
      (case q2 => k_is)
      (case q3 => k_is)
      (case q4 => k_is)
      (case q5 => k_is)
      (case q6 => k_is)
      (case q7 => k_is)
      (case wG => kernel_rfl)
      (case wR => kernel_rfl)
      (case ha => k_is)
      (case hm => k_is)
      (case any => kernel_rfl)
    case txF =>
      refine' Ow.txF_mk ?n0 ?n1 ?n2 ?n3 ?n4 ?n5 ?n6 ?n7 ?n8 ?n9 ?n10 ?n11 ?n12 ?n13 ?n14 ?n15 ?k0 ?k1 ?k2 ?k3
      (case n0 => k_is)
      (case n1 => k_is)
      (case n2 => k_is)
      (case n3 => k_is)
      (case n4 => k_is)
      (case n5 => k_is)
      (case n6 => k_is)
      (case n7 => k_is)
      (case n8 => k_is)
      (case n9 => k_is)
      (case n10 => k_is)
      (case n11 => k_is)
      (case n12 => k_is)
      (case n13 => k_is)
      (case n14 => k_is)
      (case n15 => k_is)
      (case k0 => k_is)
      (case k1 => k_is)
      (case k2 => k_is)
      (case k3 => k_is)
    case L_law_beside_right =>
      refine' Ow.defC_mk ?a ?l ?c ?k
      (case a => k_is)
      (case l => k_is)
      (case c => k_is)
      (case k => k_is)
    case L_law_one_right =>
      refine' Ow.defC_mk ?a ?l ?c ?k
      (case a => k_is)
      (case l => k_is)
      (case c => k_is)
      (case k => k_is)
    case L_law =>
      refine' Ow.defC_mk ?a ?l ?c ?k
      (case a => k_is)
      (case l => k_is)
      (case c => k_is)
      (case k => k_is)
    case tk1 => kernel_rfl
    case tk2 => kernel_rfl
    case tk3 => kernel_rfl
    case th1 => kernel_rfl
    case th2 => kernel_rfl
    case th3 => kernel_rfl
    case p12 => decide
    case p13 => decide
    case p23 => decide
