import PyProof.Rows.All
import Wide.All
import OpenK.AllK
import Wide.FinOn
import HandS.Conv
import HandS.SetFor
import HandS.Strs
import PyProof.Draws
import PyProof.EnumMake
import HandS.ForMost
import HandS.Zip0
import HandS.ForExc
import HandS.Deep
import HandS.TupAny
import HandS.TupMul
import HandS.Style
import HandS.Star
import HandS.IsInst
import HandS.TryMany
import HandS.Property
import HandS.Defaults
import KE.SortData
import HandS.RaiseMore
import KE.SortKeyHeap
import KE.KTupSum
import KE.KSortKey
import HandS.Small
import HandS.SetKeys
import PyProof.DictMoreH
import HandS.HeadHook2
import HandS.HeadEnd
import KE.KStateDown
import Lean
import HandS.Head0
import HandS.Head1
import HandS.Head2
import HandS.HeadHook1
import PySem.Challenge.RW_barfaces_k08_whole_models
set_option Elab.async false
set_option linter.all false
set_option maxRecDepth 100000
/-! sorted(set(xs)) of a list of ints. -/
namespace Bf
open PySem PySem.Spec PyProof.Rows L2
section
variable {P : Program} {w : World} {A : Around} {E : Value → Shared → Prop} {s : Shared}
/-- the set just made, still empty -/
abbrev set0 (w : World) : Obj := { cls := .type "set", dict := none, data := .set #[] 0 (.fresh 0 0 (!w.params.followText "set-order")) }
set_option maxHeartbeats 3200000 in
/-- set(xs), xs a list of ints: the walk of the tuple's rule, over a list -/
theorem set_of_list {l : Addr} {items : Array Value} (ns : List Int) {Q : Value → Shared → Prop} (hh : A.handled = none) (hl : s.heap.IsList l items) (hit : IntsAre items.toList ns) (hb : ns.length + 1 < scanBound)
    (h : ∀ (h' : Heap) (tk c : Nat), SetR w h' s.heap.objs.size (fun j => decide (j ∈ ns)) c → c ≤ ns.length → (∀ b o, s.heap.get? b = some o → h'.get? b = some o) → Q (.ref s.heap.objs.size) { s with heap := h', toks := tk }) :
    wpAny (model P w) A (call (.type "set") [.ref l]) Q E s := by
  have hisz : items.size = ns.length := by
    have q := IntsAre.length hit
    rw [Array.length_toList] at q
    exact q
  obtain ⟨c, tl, hmro⟩ := F.called_set.mro
  have hmade := F.called_set.made
  have hsub := F.called_set.sub
  refine wpAny_call (codeAny_of_tree ?_)
  show wpAny _ _ (callAny (.type "set") _) _ _ _
  refine wpAny_pure ⟨Code.quiet_builtin _ (by decide +kernel), codeAny_builtin F.entry_type_call ?_⟩
  rw [Around.under_plain (weight_type_call_type "set" [.ref l] []) rfl]
  have h1 := F.called_set.notType
  have h2 := F.called_set.canCreate
  have hct := F.typeCall_set_1 (.ref l)
  repeat (any_goals (first | assumption | wp_step))
  refine codeAny_mono (code_set_led1 (.ref l) (E := E) (Q₁ := fun obj s₁ => obj = .ref s.heap.objs.size ∧ s₁ = { s with heap := s.heap.push (set0 w) }) ⟨rfl, rfl⟩) fun r s₁ hr => ?_
  cases r with
  | error e => exact hr
  | ok fl =>
    cases fl with
    | ret obj =>
      obtain ⟨rfl, rfl⟩ := hr
      have hS : (s.heap.push (set0 w)).get? s.heap.objs.size = some (set0 w) := Heap.get?_push_size _ rfl
      have hT : Shared.TypeIs { s with heap := s.heap.push (set0 w) } (.ref s.heap.objs.size) "set" := ⟨_, hS, rfl⟩
      have hli := F.called_set.init.lookup
      have hbi := F.called_set.init.bind (.ref s.heap.objs.size)
      repeat (any_goals (first | assumption | wp_step))
      refine codeAny_mono (codeAny_call_builtin (R := wants (fun r s₂ => r = .none ∧ ∃ h' tk c, s₂ = { s with heap := h', toks := tk } ∧ SetR w h' s.heap.objs.size (fun j => decide (j ∈ ns)) c ∧ c ≤ ns.length ∧
          (∀ b o, s.heap.get? b = some o → h'.get? b = some o)) E) F.called_set.init.plain F.entry_set_init (check_set_init_1 hT ?_)) fun r₂ s₂ hr₂ => ?_
      · obtain ⟨ol, hol, hcl, nl, hdl⟩ := hl
        obtain ⟨ocls, odict, odata, oslots⟩ := ol
        simp only at hcl hdl
        subst hcl; subst hdl
        have hol' : (s.heap.push (set0 w)).get? l = some { cls := .type "list", dict := odict, data := .seq items nl, slots := oslots } := Heap.get?_push_of_some _ hol
        have hsls := F.sub_list_set
        have hslf := F.sub_list_frozenset
        have hne : (Value.type "list" == Value.type "dict") = false := by decide
        have hl1 : (s.heap.push (set0 w)).IsList l items := ⟨_, hol', rfl, nl, rfl⟩
        unfold Builtin.«set.__init__» noKeywords Builtin.Frozenset.updateFrom
        generalize hPI : pyIter = PI
        wp_walk
        subst hPI
        refine wpAny_pyIter_list hl1 ?_
        refine wpAny_bind (wpAny_runValue ?_)
        have hlS : l < s.heap.objs.size := Heap.lt_size hol
        have hh3 : A.in1.in1.in1.handled = none := by simp [hh]
        have hneI : l ≠ (s.heap.push (set0 w)).objs.size := by
          rw [Heap.size_push]; exact Nat.ne_of_lt (Nat.lt_succ_of_lt hlS)
        have hSf : s.heap.objs.size ∉ [(s.heap.push (set0 w)).objs.size, l] := by
          rw [Heap.size_push]; simp only [List.mem_cons, List.mem_singleton, List.not_mem_nil, or_false, not_or]
          exact ⟨Nat.ne_of_lt (Nat.lt_succ_self _), Nat.ne_of_gt hlS⟩
        have hval : ∀ (i : Nat) (v : Value), items[i]? = some v → ∃ k t, ns[i]? = some k ∧ v = .int k t := fun i v hv => by
          have hi : i < ns.length := by rw [← hisz]; exact (Array.getElem?_eq_some_iff.mp hv).1
          obtain ⟨t, e⟩ := PyProof.Rows.IntsAre.int_at hit i v (by rw [Array.getElem?_toList]; exact hv)
          refine ⟨ns[i], t, List.getElem?_eq_getElem hi, ?_⟩
          rw [e, List.getD_eq_getElem?_getD, List.getElem?_eq_getElem hi] <;> rfl
        refine set_update_ints ((Walks.list hh3 _ l hneI items).toS) s.heap.objs.size
          hSf ns hisz hb hval (items.size - 0) 0 _ (by omega) (Nat.zero_le _)
          ⟨⟨_, Heap.get?_push_size _ rfl, rfl, rfl⟩, (hl1.push _)⟩ ?hS0 ?hR
        case hS0 =>
          have hget : ((s.heap.push (set0 w)).push { cls := .type "list_iterator", data := .fields #[.ref l, .int 0 0] }).get? s.heap.objs.size = some (set0 w) := Heap.get?_push_of_some _ hS
          exact ⟨0, Nat.le_refl 0, setR_new_at hget⟩
        case hR =>
          intro s' c' hm hc' hS'
          obtain ⟨h', g2, d', tk', os'⟩ := s'
          have eg : g2 = s.gens := hm.gens
          have ed : d' = s.drawn := hm.drawn
          have eo : os' = s.os := hm.os
          subst eg; subst ed; subst eo
          show wpAny _ _ _ _ _ _
          refine wpAny_pure ?_
          show wpAny _ _ (ret Value.none) _ _ _
          rw [hisz] at hc'
          refine wpAny_pure ⟨rfl, h', tk', c', rfl, hS', hc', fun b o e => ?_⟩
          have hb0 : b < s.heap.objs.size := Heap.lt_size e
          have hb1 : b ≠ s.heap.objs.size := Nat.ne_of_lt hb0
          have hb2 : b ≠ (s.heap.push (set0 w)).objs.size := by
            rw [Heap.size_push]; exact Nat.ne_of_lt (Nat.lt_succ_of_lt hb0)
          exact hm.heap b o (by simp only [List.mem_cons, List.mem_singleton, List.not_mem_nil, or_false, not_or]; exact ⟨hb1, hb2⟩) (Heap.get?_push_of_some _ (Heap.get?_push_of_some _ e))
      · cases r₂ with
        | error e => exact hr₂
        | ok fl₂ =>
          cases fl₂ with
          | ret r =>
            obtain ⟨rfl, h', tk, c', rfl, hS', hc', hk'⟩ := hr₂
            repeat (any_goals (first | assumption | wp_step))
            exact h _ _ _ hS' hc' hk'
          | _ => exact hr₂.elim
    | _ => exact hr.elim
end
/-! two rising lists of the same members -/
def setIns (k : Int) : List Int → List Int
  | [] => [k]
  | x :: xs => if k < x then k :: x :: xs else if k = x then x :: xs else x :: setIns k xs
def setSort (ns : List Int) : List Int := ns.foldr setIns []
theorem rise_ext : ∀ {xs ys : List Int}, xs.Pairwise (· < ·) → ys.Pairwise (· < ·) → (∀ k, k ∈ xs ↔ k ∈ ys) → xs = ys
  | [], [], _, _, _ => rfl
  | [], y :: ys, _, _, h => by have := (h y).mpr List.mem_cons_self; cases this
  | x :: xs, [], _, _, h => by have := (h x).mp List.mem_cons_self; cases this
  | x :: xs, y :: ys, px, py, h => by
    obtain ⟨a1, a2⟩ := List.pairwise_cons.mp px
    obtain ⟨b1, b2⟩ := List.pairwise_cons.mp py
    have e : x = y := by
      rcases List.mem_cons.mp ((h x).mp List.mem_cons_self) with e | e
      · exact e
      · rcases List.mem_cons.mp ((h y).mpr List.mem_cons_self) with e' | e'
        · exact e'.symm
        · have := a1 _ e'; have := b1 _ e; omega
    subst e
    rw [rise_ext a2 b2 fun k => ?_]
    constructor
    · intro hk
      rcases List.mem_cons.mp ((h k).mp (List.mem_cons_of_mem _ hk)) with e | e
      · subst e; have := a1 _ hk; omega
      · exact e
    · intro hk
      rcases List.mem_cons.mp ((h k).mpr (List.mem_cons_of_mem _ hk)) with e | e
      · subst e; have := b1 _ hk; omega
      · exact e
theorem mem_setIns {k j : Int} : ∀ {xs : List Int}, j ∈ setIns k xs ↔ j = k ∨ j ∈ xs
  | [] => by simp [setIns]
  | x :: xs => by
    unfold setIns
    split
    · simp
    · split
      · rename_i h; subst h; simp
      · rw [List.mem_cons, mem_setIns, List.mem_cons]
        constructor
        · rintro (h | h | h)
          · exact .inr (.inl h)
          · exact .inl h
          · exact .inr (.inr h)
        · rintro (h | h | h)
          · exact .inr (.inl h)
          · exact .inl h
          · exact .inr (.inr h)
theorem rise_setIns {k : Int} : ∀ {xs : List Int}, xs.Pairwise (· < ·) → (setIns k xs).Pairwise (· < ·)
  | [], _ => by simp [setIns]
  | x :: xs, h => by
    obtain ⟨a1, a2⟩ := List.pairwise_cons.mp h
    unfold setIns
    split
    · rename_i hk
      refine List.pairwise_cons.mpr ⟨fun y hy => ?_, h⟩
      rcases List.mem_cons.mp hy with e | e
      · subst e; exact hk
      · have := a1 _ e; omega
    · split
      · exact h
      · rename_i h1 h2
        refine List.pairwise_cons.mpr ⟨fun y hy => ?_, rise_setIns a2⟩
        rcases mem_setIns.mp hy with e | e
        · subst e; omega
        · exact a1 _ e
theorem rise_setSort (ns : List Int) : (setSort ns).Pairwise (· < ·) := by
  induction ns with
  | nil => exact List.Pairwise.nil
  | cons n ns ih => exact rise_setIns ih
theorem mem_setSort {j : Int} {ns : List Int} : j ∈ setSort ns ↔ j ∈ ns := by
  induction ns with
  | nil => exact Iff.rfl
  | cons n ns ih =>
    show j ∈ setIns n (setSort ns) ↔ _
    rw [mem_setIns, ih, List.mem_cons]
def tSortSet (K : PySem.W.Frag) (ta : TE) : TE := fun σ H Q => ta σ H fun x H1 => ∃ (l : Addr) (ns : List Int), x = .ref l ∧ SqL K H1 l (ns.map V.int) ∧ ns.length < 64 ∧ ∀ p, H1 p = none → Q (.ref p) (upd H1 p (.lst ((setSort ns).map V.int)))
theorem pe_sortSet {X : Cx} {a : Expr} {ta : TE} {p p2 q pos : Pos} (hc : X.calm = true) (hg : Gl X "sorted") (hm : X.mg "sorted" = none) (hg2 : Gl X "set") (hm2 : X.mg "set" = none) (ha : PE X a ta)
    (na : starEach [a] X.env = (false, eval a X.env) :: starEach [] X.env) : PE X (.Call (.Name "sorted" p) [.Call (.Name "set" p2) [a] [] q] [] pos) (tSortSet X.K ta) := by
  refine ⟨fun pins s σ H Q I h => ?_⟩
  refine Call_ (ld_blt I hg hm (u := .builtin "sorted") (by kernel_rfl) ?_)
  refine PyProof.Rows.callWith_builtin1 (PyProof.Rows.args_cons ?_ rfl) rfl rfl
  refine Call_ (ld_blt I hg2 hm2 PyProof.Rows.boot_set ?_)
  refine PyProof.Rows.callWith_type1 (PyProof.Rows.args_cons (thn (ha.run pins s σ H _ I h) fun v s1 ⟨x, H1, I1, r1, q1⟩ => PyProof.Rows.args_nil ?_) na) na rfl
  obtain ⟨l, ns, rfl, hq, hl, q1⟩ := q1
  cases r1
  obtain ⟨its, r, pl, hz⟩ := I1.list hq
  refine set_of_list ns (I1.ok.hd hc) pl.isList (by simpa using ints_of_vals r) (by unfold scanBound; omega) fun h' tk c R hcl hk => ?_
  refine PyProof.Rows.args_nil ?_
  have I2 : Inv X pins σ H1 { s1 with heap := h', toks := tk } := I1.kept hk
  refine sorted_set R (I2.ok.hd hc) (Nat.lt_of_le_of_lt hcl hl) fun s' p out c ms k g o hp hg' hi hs hmm hl2 => ?_
  have em : ms = setSort ns := rise_ext hs (rise_setSort ns) fun k => by rw [hmm, mem_setSort, decide_eq_true_eq]
  subst em
  have hlen : ((setSort ns).map V.int).length ≤ sizeLine := by rw [List.length_map, hl2, sizeLine_eq]; omega
  have hn : H1 p = none := I2.hok.fresh hp
  have J : Inv X pins σ (upd H1 p (.lst ((setSort ns).map V.int))) s' :=
    Inv.call' (s := { s1 with heap := h', toks := tk }) (ch := []) I2 o (Un.laid (h := h') k hp hn) (I2.hok.laid k hp ⟨hlen, out.toList, _, vals_of_ints hi, hg'⟩) (by rw [g]; exact I2.bare) (fun _ z => nomatch z)
  exact ⟨.ref p, _, J, rfl, q1 p hn⟩
end Bf

set_option Elab.async false
set_option linter.all false
set_option maxRecDepth 100000
/-! enumerate(tuple) -/
namespace PySem
open Sem (wp)
open AutoSeq1 (wpAny_loadPart')
set_option maxHeartbeats 1000000 in
theorem bf_meets_enumT (l : Addr) (items : Array Value) (n : Nat) (dct : Option Addr) (sl : Array (Option Value)) :
    Meets (Builtin.«enumerate.__new__» ⟨[.type "enumerate", .ref l], []⟩) (fun _ R s => s.heap.get? l = some { cls := .type "tuple", dict := dct, data := .seq items n, slots := sl } ∧
      R (.ok (.ret (.ref (s.heap.push { cls := .type "tuple_iterator", data := .fields #[.ref l, .int 0 0] }).objs.size)))
        { s with heap := (s.heap.push { cls := .type "tuple_iterator", data := .fields #[.ref l, .int 0 0] }).push { cls := .type "enumerate", data := .fields #[.none, .bool false, .ref s.heap.objs.size, rawInt 0, .none, .none] } }) :=
  .of_wp fun prog w A R s h => by
    obtain ⟨hp, g, d, tk, os⟩ := s; obtain ⟨hl, h⟩ := h
    have hsub := sub_enumerate
    have hL : Heap.IsTuple (Shared.heap ⟨hp, g, d, tk, os⟩) l items := ⟨_, hl, rfl, n, rfl⟩
    wp_walk using wpAny_loadPart' hl
    refine wpAny_stack_any fun st => wpAny_pure ?_
    split
    · rename_i c _ _ _ _ _
      cases (c == Value.type "enumerate")
      · wp_walk using wpAny_loadPart' hl, wpAny_pyIter_tuple hL
        exact ⟨_, rfl, h⟩
      · wp_walk using wpAny_loadPart' hl, wpAny_pyIter_tuple hL
        exact ⟨_, rfl, h⟩
    · wp_walk using wpAny_loadPart' hl, wpAny_pyIter_tuple hL
      exact ⟨_, rfl, h⟩
section
variable {prog : Program} {w : World} {A : Around} {E : Value → Shared → Prop} {s : Shared}
theorem bf_call_enumT {l : Addr} {items : Array Value} {Q : Value → Shared → Prop} (hL : s.heap.IsTuple l items)
    (h : ∀ h', IsEnum h' (s.heap.objs.size + 1) s.heap.objs.size 0 .none → h'.IsTupleIter s.heap.objs.size l 0 → h'.objs.size = s.heap.objs.size + 2 →
      (∀ b o, s.heap.get? b = some o → h'.get? b = some o) → Q (.ref (s.heap.objs.size + 1)) { s with heap := h' }) :
    wpAny (model prog w) A (call (.type "enumerate") [.ref l]) Q E s := by
  obtain ⟨⟨c, dct, dt, sl⟩, hl, hc, n, hd⟩ := hL
  replace hc : c = .type "tuple" := hc
  replace hd : dt = .seq items n := hd
  subst hc hd
  refine callType_new F.called_enumerate (by decide) (F.typeCall_enumerate_1 _) (F.newCall_enumerate_1 _) (fun obj => F.args_object_init_2 obj _) F.entry_enumerate_new
    (bf_meets_enumT l items n dct sl) ⟨hl, ?_⟩
  have hz : (s.heap.push { cls := .type "tuple_iterator", data := .fields #[.ref l, .int 0 0] }).objs.size = s.heap.objs.size + 1 := Heap.size_push ..
  show _ ∧ _
  rw [hz]
  have he : IsEnum ((s.heap.push { cls := .type "tuple_iterator", data := .fields #[.ref l, .int 0 0] }).push
      { cls := .type "enumerate", data := .fields #[.none, .bool false, .ref s.heap.objs.size, rawInt 0, .none, .none] }) (s.heap.objs.size + 1) s.heap.objs.size 0 .none := by
    have := Heap.get?_push_size (s.heap.push { cls := .type "tuple_iterator", data := .fields #[.ref l, .int 0 0] })
      (o := { cls := .type "enumerate", data := .fields #[.none, .bool false, .ref s.heap.objs.size, rawInt 0, .none, .none] }) rfl
    rw [hz] at this; exact this
  refine ⟨⟨_, he, rfl⟩, h _ he ⟨_, Heap.get?_push_of_some _ (Heap.get?_push_size _ rfl), rfl, rfl⟩ (by rw [Heap.size_push, hz]) fun b o x => Heap.get?_push_of_some _ (Heap.get?_push_of_some _ x)⟩
end
end PySem
namespace L2
open PySem PySem.Spec PyProof.Rows
theorem drawsT {prog : Program} {w : World} {A : Around} (hh : A.handled = none) (it l : Addr) (hne : l ≠ it) (items : Array Value) :
    Draws prog w A it [it, l] items.size (fun i v => items[i]? = some v) (fun i h => h.IsTupleIter it l i ∧ h.IsTuple l items) where
  live := fun _ _ st => let ⟨o, ho, _⟩ := st.1; ⟨o, ho⟩
  frame := fun _ _ _ st hk => ⟨st.1.at fun o e => hk it (by simp) o e, st.2.at fun o e => hk l (by simp) o e⟩
  item := fun i s Q E hi st hQ => by
    refine RZ.nextOf_tuple_item st.1 st.2 (x := items[i]) (by simp [hi]) fun h' hit' hs' => ?_
    exact hQ _ h' s.toks (by simp [hi]) ⟨hit', st.2.at fun o e => hs'.extBut _ _ hne e⟩ hs'
  done := fun s Q E st hE => RZ.nextOf_tuple_end hh st.1 st.2 (by simp) hE
/-- the tuple at a, each item in a new pair -/
def Itet (K : PySem.W.Frag) (a : Addr) : It :=
  ⟨fun i H => ∃ (xs : List V) (x : V), SqT K H a xs ∧ xs[i]? = some x, fun i H v H' => ∃ T x, v = .ref T ∧ H T = none ∧ H' = upd H T (.tup [.int (i : Nat), x]) ∧ ∀ xs, SqT K H a xs → xs[i]? = some x, fun i H => ∃ xs : List V, SqT K H a xs ∧ xs.length ≤ i⟩
theorem turn_enumT {P : Program} {w : World} {K : PySem.W.Frag} {elts : List Expr} {kk : Nat} {tpos : Pos} (a e it : Addr) :
    Turn P w K (.Tuple elts kk tpos) (Itet K a) [e, it] e (fun i h => (∃ old, IsEnum h e it ((i : Nat) : Int) old) ∧ h.IsTupleIter it a i ∧ e ≠ it) where
  mem := by simp
  obj := fun i h st b hb => by
    obtain ⟨⟨old, he⟩, ⟨o, ho, hc, hd⟩, _⟩ := st
    have e' : b = e ∨ b = it := by simpa using hb
    rcases e' with z | z
    · rw [z]; exact ⟨_, he, fun v q => nomatch q⟩
    · rw [z]; exact ⟨o, ho, fun v q => by rw [hd] at q; cases q⟩
  keep := fun i h h' st k => let ⟨⟨old, he⟩, hi, hne⟩ := st; ⟨⟨old, k e (by simp) _ he⟩, hi.at fun o q => k it (by simp) o q, hne⟩
  item := by
    intro X hP hw hK hc i pins s σ H E I hf st hg
    subst hP hw hK
    obtain ⟨⟨old, he⟩, hit, hne⟩ := st
    obtain ⟨xs, x, hq, hx⟩ := hg
    obtain ⟨its, rv, p, hz⟩ := I.tuple hq
    obtain ⟨u, hu, ru⟩ := rv.get hx
    have p : s.heap.IsTuple a its.toArray := p
    have hel : e < s.heap.objs.size := Heap.lt_size he
    have hil : it < s.heap.objs.size := by obtain ⟨_, q, _⟩ := hit; exact Heap.lt_size q
    have hai : a ≠ it := by
      rintro rfl
      obtain ⟨o, h1, h2, h3⟩ := hit
      obtain ⟨o', h4, h5, n, h6⟩ := p
      rw [h1] at h4; cases h4
      rw [h3] at h6; cases h6
    have hea : e ≠ a := by
      rintro rfl
      obtain ⟨o', h4, h5, n, h6⟩ := p
      rw [he] at h4; cases h4; cases h6
    have D := drawsT (prog := X.prog) (w := X.w) (A := X.A.in1) (by show X.A.handled = none; exact I.ok.hd hc) it a hai its.toArray
    have hlt : i < its.toArray.size := by
      have := (List.getElem?_eq_some_iff.mp hu).1
      simpa using this
    refine wpAny_pyNext_enum_itemD D he ⟨hit, p⟩ hlt hne (by simp [hne, hea]) fun y h' tk hP ho hit' hT hsz hk => ?_
    obtain ⟨hit', p'⟩ := hit'
    obtain rfl : y = u := by
      have : its.toArray[i]? = some u := by simpa using hu
      rw [this] at hP; cases hP; rfl
    refine ⟨_, rfl, wpAny_letOwnedTupleGo_enum (s := { s with heap := h', toks := tk + 1 }) ho fun h'' he' sb => ?_⟩
    have hT2 : h''.get? s.heap.objs.size = some { cls := .type "tuple", data := .seq #[.int i tk, y] } := (sb.2 _ (Nat.ne_of_gt hel)).trans hT
    have new : ObjOk X.prog X.w (upd H s.heap.objs.size (.tup [.int (i : Nat), x])) h'' s.heap.objs.size (.tup [.int (i : Nat), x]) :=
      ⟨by show 2 ≤ sizeLine; decide, [.int i tk, y], .cons ⟨_, rfl⟩ (.cons ru .nil), ⟨_, hT2, rfl, _, rfl⟩⟩
    have I1 : Inv X pins σ (upd H s.heap.objs.size (.tup [.int (i : Nat), x])) { s with heap := h'', toks := tk + 1 } :=
      I.turnedNew (ch := [e, it]) (fun b ob hb q => (sb.2 b (fun z => hb (by simp [z]))).trans (hk b ob (fun z => hb (by simp [z])) (fun z => hb (by simp [z])) q)) hf (Nat.le_refl _) new
    refine ⟨.ref s.heap.objs.size, _, I1, rfl, ⟨_, x, rfl, I.hok.fresh (Nat.le_refl _), rfl, fun ys hy => by rw [I.tuple_inj hy hq]; exact hx⟩, ⟨⟨y, ?_⟩, hit'.at fun o q => (sb.2 it (Ne.symm hne)).trans q, hne⟩, fun b hb => ?_⟩
    · have e1 : ((i + 1 : Nat) : Int) = (i : Int) + 1 := by omega
      rw [e1]; exact he'
    · have hb' : b < s.heap.objs.size := by
        have e' : b = e ∨ b = it := by simpa using hb
        rcases e' with z | z
        · rw [z]; exact hel
        · rw [z]; exact hil
      rw [upd_ne (Nat.ne_of_lt hb')]
      exact (hf b hb).1
  done := by
    intro X hP hw hK hc i pins s σ H E I hf st hg
    subst hP hw hK
    obtain ⟨⟨old, he⟩, hit, hne⟩ := st
    obtain ⟨xs, hq, hx⟩ := hg
    obtain ⟨its, rv, p, hz⟩ := I.tuple hq
    have p : s.heap.IsTuple a its.toArray := p
    obtain ⟨f0, f1, f2, f3, f4, f5⟩ := hf it (by simp)
    have hl := rv.length
    have hT : s.TypeIs (.ref e) "enumerate" := ⟨_, he, rfl⟩
    show wpAny _ _ (pyNext (.ref e)) _ _ _
    unfold pyNext
    refine wpAny_bind (wpAny_attempt (wpAny_callSpecial?_slot (name := Str.ofString "__next__") hT F.slot_enumerate_next
      (wpAny_call_entry F.slot_enumerate_next hT F.entry_enumerate_next ?_ (F.args_enumerate_next_1 _))))
    show wpAny _ _ (field (.ref e) 2 >>= _) _ _ _
    refine wpAny_bind (wpAny_field he rfl (x := .ref it) rfl ?_)
    refine wpAny_bind (RZ.nextOf_tuple_end (by show X.A.handled = none; exact I.ok.hd hc) hit p (by simp; omega) fun h' x he' hx' => ?_)
    obtain ⟨o, ho, hcl⟩ := hx'
    refine wpAny_bind (wpAny_isInstance (T := "StopIteration") (b := true) ⟨o, ho, hcl⟩ isSubtype_stop ?_)
    exact wpAny_pure ⟨rfl, I.turned (t' := s.toks) (fun b o hb q => he' b o hb q) f0 f1 f3 f4 f5⟩
  self := fun A i s Q E st h => let ⟨⟨_, he⟩, _⟩ := st; wpAny_pyIter_enum he h
/-- enumerate of a list or a tuple -/
def iEnumS (K : PySem.W.Frag) (ta : TA) : TI := fun σ H R => ta σ H fun vs H1 => (∃ a xs, vs = [.ref a] ∧ SqL K H1 a xs ∧ R (Ite K a) H1) ∨ (∃ a xs, vs = [.ref a] ∧ SqT K H1 a xs ∧ R (Itet K a) H1)
theorem pi_enumS {X : Cx} {e : Expr} {ta : TA} {p pos tpos : Pos} {elts : List Expr} {kk : Nat} (hg : Gl X "enumerate") (hm : X.mg "enumerate" = none) (ha : PA X [e] ta) (hs : starEach [e] X.env = [(false, eval e X.env)] := by rfl) :
    PI X (.Tuple elts kk tpos) (.Call (.Name "enumerate" p) [e] [] pos) (iEnumS X.K ta) := by
  refine ⟨fun pins s σ H R I h => ?_⟩
  refine Call_ (ld_blt I hg hm boot_enumerate (PyProof.Rows.callWith_type1 (thn (ha.run pos pins s σ H _ I h) fun us s1 ⟨vs, H1, I1, r1, q1⟩ => ?_) hs rfl))
  rcases q1 with ⟨a, xs, ex, hq, q⟩ | ⟨a, xs, ex, hq, q⟩
  · subst ex
    cases r1 with
    | cons r rr =>
      cases rr
      cases r
      obtain ⟨its, rv, p', hz⟩ := I1.list hq
      refine call_enumerate_list p'.isList fun h' he hit hsz hk => wpAny_pyIter_enum he ?_
      have I2 : Inv X pins σ H1 { s1 with heap := h' } := I1.kept (t' := s1.toks) hk
      refine ⟨s1.heap.objs.size + 1, [s1.heap.objs.size + 1, s1.heap.objs.size], _, _, H1, rfl, I2, turn_enum a (s1.heap.objs.size + 1) s1.heap.objs.size, ⟨⟨.none, he⟩, hit, Nat.succ_ne_self _⟩, fun b hb => ?_, q⟩
      have e' : b = s1.heap.objs.size + 1 ∨ b = s1.heap.objs.size := by simpa using hb
      have hle : s1.heap.objs.size ≤ b := by
        rcases e' with z | z
        · rw [z]; exact Nat.le_add_right _ _
        · rw [z]; exact Nat.le_refl _
      exact I1.fpOk hle (I1.hok.fresh hle)
  · subst ex
    cases r1 with
    | cons r rr =>
      cases rr
      cases r
      obtain ⟨its, rv, p', hz⟩ := I1.tuple hq
      refine bf_call_enumT (show s1.heap.IsTuple a its.toArray from p') fun h' he hit hsz hk => wpAny_pyIter_enum he ?_
      have I2 : Inv X pins σ H1 { s1 with heap := h' } := I1.kept (t' := s1.toks) hk
      refine ⟨s1.heap.objs.size + 1, [s1.heap.objs.size + 1, s1.heap.objs.size], _, _, H1, rfl, I2, turn_enumT a (s1.heap.objs.size + 1) s1.heap.objs.size, ⟨⟨.none, he⟩, hit, Nat.succ_ne_self _⟩, fun b hb => ?_, q⟩
      have e' : b = s1.heap.objs.size + 1 ∨ b = s1.heap.objs.size := by simpa using hb
      have hle : s1.heap.objs.size ≤ b := by
        rcases e' with z | z
        · rw [z]; exact Nat.le_add_right _ _
        · rw [z]; exact Nat.le_refl _
      exact I1.fpOk hle (I1.hok.fresh hle)
end L2

set_option Elab.async false
set_option linter.all false
/-! A small language of expressions and statements over data by value and a memory of cells; its evaluator. -/
namespace Bf
open PySem
/-! ### the fields of the program's classes: Plan 10, Run 11, Model 12 -/
inductive Fd where
  | osteps | ofacts | shown | bars | fmarks | holders | pused | snow | past
  deriving DecidableEq
def Fd.nm : Fd → PySem.Str
  | .osteps => "own_steps" | .ofacts => "own_facts" | .shown => "shown" | .bars => "bars" | .fmarks => "found_marks" | .holders => "holders" | .pused => "plan_used" | .snow => "sizes_now" | .past => "past"
theorem Fd.inj {a b : Fd} (h : a.nm = b.nm) : a = b := by
  cases a <;> cases b <;> first | rfl | exact absurd h (by decide +kernel)
/-- fields whose container is the object's own -/
def owned : Fd → Bool
  | .bars => true | .fmarks => true | .holders => true | .past => true | _ => false
def okF : Nat → Fd → Bool
  | 10, .osteps => true | 10, .ofacts => true
  | 11, .shown => true | 11, .bars => true | 11, .fmarks => true | 11, .holders => true
  | 12, .pused => true | 12, .snow => true | 12, .past => true
  | _, _ => false
/-! ### data -/
inductive D where
  | non | bl (b : Bool) | int (i : Int) | str (s : PySem.Str)
  | tup (xs : List D) | lst (xs : List D)
  | dK (ks : List L2.Key) (xs : List D) | dT (ks : List (List L2.Key)) (xs : List D)
  | ins (c : Nat) (ks : List Fd) (xs : List D)
  | scr (ns : List Int)
instance : Inhabited D := ⟨.non⟩
abbrev Mem := List D
/-- a value at a slot: data, a cell, a cell's own field, a list just made -/
inductive W where
  | v (d : D) | c (i : Nat) | f (i : Nat) (g : Fd) | n (xs : List D)
instance : Inhabited W := ⟨.v .non⟩
abbrev Env := List (Option W)
inductive Rs (α : Type) where
  | ok (a : α) (M : Mem) | ex (c : Nat) (f : D) (M : Mem) | no
def Rs.bind {α β : Type} (r : Rs α) (f : α → Mem → Rs β) : Rs β := match r with
  | .ok a M => f a M
  | .ex c g M => .ex c g M
  | .no => .no
/-- what a statement leaves -/
inductive Rt where
  | nx (e : Env) (M : Mem) | rt (w : W) (M : Mem) | ex (c : Nat) (f : D) (e : Env) (M : Mem) | no
def ofO {α : Type} (o : Option α) (M : Mem) : Rs α := match o with
  | some a => .ok a M
  | none => .no

/-! ### data as the library's plain data -/
mutual
def toPy : D → Option PyData
  | .non => some .none
  | .bl b => some (.bool b)
  | .int i => some (.int i)
  | .str s => some (.str s)
  | .tup xs => (toPys xs).map .tuple
  | .lst xs => (toPys xs).map .list
  | _ => none
def toPys : List D → Option (List PyData)
  | [] => some []
  | x :: xs => match toPy x, toPys xs with
    | some y, some ys => some (y :: ys)
    | _, _ => none
end
/-- plain, at most n deep -/
def fits : Nat → D → Bool
  | _, .non => true
  | _, .bl _ => true
  | _, .int _ => true
  | _, .str s => PyData.strOk s
  | n + 1, .tup xs => xs.all (fits n)
  | n + 1, .lst xs => xs.all (fits n)
  | _, _ => false
mutual
/-- == of plain data -/
def eqB : D → D → Bool
  | .non, .non => true
  | .bl a, .bl b => a == b
  | .bl a, .int j => (if a then 1 else 0) == j
  | .int i, .bl b => i == (if b then 1 else 0)
  | .int i, .int j => i == j
  | .str x, .str y => x == y
  | .lst xs, .lst ys => eqBs xs ys
  | .tup xs, .tup ys => eqBs xs ys
  | _, _ => false
def eqBs : List D → List D → Bool
  | [], [] => true
  | x :: xs, y :: ys => eqB x y && eqBs xs ys
  | _, _ => false
end
def eqD (a b : D) : Option Bool := match a, b with
  | .str s, .str t => some (s == t)
  | a, b => if fits 20 a && fits 20 b then some (eqB a b) else none

/-! ### operations -/
abbrev LIM : Nat := 16777216
def look {κ : Type} [DecidableEq κ] : List κ → List D → κ → Option D
  | k :: ks, x :: xs, q => if k = q then some x else look ks xs q
  | _, _, _ => none
def put {κ : Type} [DecidableEq κ] : List κ → List D → κ → D → List κ × List D
  | k :: ks, x :: xs, q, y => if k = q then (k :: ks, y :: xs) else ((k :: (put ks xs q y).1), (x :: (put ks xs q y).2))
  | _, _, q, y => ([q], [y])
def keyD : D → Option L2.Key
  | .int i => some (.inl i)
  | .str s => some (.inr s)
  | _ => none
def keyDs : List D → Option (List L2.Key)
  | [] => some []
  | x :: xs => match keyD x, keyDs xs with
    | some k, some ks => some (k :: ks)
    | _, _ => none
def dKey : L2.Key → D
  | .inl i => .int i
  | .inr s => .str s
inductive O2 where
  | add | sub | mul | fdiv | mod | pow | eq | ne | lt | le | gt | ge | isN | notN | inn | nin
  deriving DecidableEq
def inB (x : D) (y : D) : Option Bool := match y with
  | .lst ys => if fits 20 x && fits 20 (.lst ys) then some (ys.any fun z => eqB z x) else none
  | .tup ys => if fits 20 x && fits 20 (.lst ys) then some (ys.any fun z => eqB z x) else none
  | .dK ks xs => (keyD x).map fun k => (look ks xs k).isSome
  | .dT ks xs => match x with
    | .tup ts => (keyDs ts).map fun k => (look ks xs k).isSome
    | _ => none
  | _ => none
def isNonD : D → Bool
  | .non => true
  | _ => false
def op2 : O2 → D → D → Option D
  | .add, .int i, .int j => some (.int (i + j))
  | .add, .str s, .str t => if s.length + t.length ≤ LIM then some (.str (s ++ t)) else none
  | .add, .lst xs, .lst ys => if xs.length + ys.length ≤ LIM then some (.lst (xs ++ ys)) else none
  | .add, .tup xs, .tup ys => if xs.length + ys.length ≤ LIM then some (.tup (xs ++ ys)) else none
  | .sub, .int i, .int j => some (.int (i - j))
  | .mul, .int i, .int j => if i.natAbs < 18446744073709551616 ∨ j.natAbs < 18446744073709551616 then some (.int (i * j)) else none
  | .mul, .lst xs, .int j => if 0 ≤ j ∧ j ≤ 1000 ∧ xs.length ≤ 1000 then some (.lst (List.replicate j.toNat xs).flatten) else none
  | .mul, .tup xs, .int j => if 2 ≤ j ∧ j ≤ 1000 ∧ xs.length ≤ 1000 ∧ xs ≠ [] then some (.tup (List.replicate j.toNat xs).flatten) else none
  | .fdiv, .int i, .int j => if 0 < j ∧ j < 1073741824 then some (.int (i / j)) else none
  | .mod, .int i, .int j => if 0 < j then some (.int (i % j)) else none
  | .pow, .int i, .int j => if 0 ≤ j ∧ j ≤ 1000000 ∧ i.natAbs < 18446744073709551616 then some (.int (i ^ j.toNat)) else none
  | .eq, a, b => (eqD a b).map .bl
  | .ne, a, b => (eqD a b).map fun k => .bl !k
  | .lt, .int i, .int j => some (.bl (decide (i < j)))
  | .le, .int i, .int j => some (.bl (decide (i ≤ j)))
  | .gt, .int i, .int j => some (.bl (decide (j < i)))
  | .ge, .int i, .int j => some (.bl (decide (j ≤ i)))
  | .isN, a, .non => some (.bl (isNonD a))
  | .notN, a, .non => some (.bl !isNonD a)
  | .inn, x, y => (inB x y).map .bl
  | .nin, x, y => (inB x y).map fun k => .bl !k
  | _, _, _ => none
/-- where a bound of a slice stands -/
def cutD (xs : List D) (lo hi : Option Int) : List D := (xs.drop (HT.sIx xs.length 0 lo)).take (HT.sIx xs.length xs.length hi - HT.sIx xs.length 0 lo)
def idxD (a i : D) : Option D := match a, i with
  | .lst xs, .int k => L2.atI xs k
  | .tup xs, .int k => L2.atI xs k
  | .dK ks xs, k => (keyD k).bind fun k => look ks xs k
  | .dT ks xs, .tup ts => (keyDs ts).bind fun k => look ks xs k
  | _, _ => none
/-! ### built-in functions -/
inductive Ty where
  | int | bool | str | tuple | list | dict
  deriving DecidableEq
def isTy : Ty → D → Bool
  | .int, .int _ => true
  | .int, .bl _ => true
  | .bool, .bl _ => true
  | .str, .str _ => true
  | .tuple, .tup _ => true
  | .list, .lst _ => true
  | .dict, .dK _ _ => true
  | _, _ => false
def tyD : D → Bool
  | .dT _ _ => false
  | .ins _ _ _ => false
  | .scr _ => false
  | _ => true
inductive BI where
  | len | sorted | sortSum | sortSet | list | tuple | all | any | abs | int | bool | str | max | min | isi (t : Ty) | dict | rng
  deriving DecidableEq
def allInt : List D → Option (List Int)
  | [] => some []
  | .int i :: xs => (allInt xs).map (i :: ·)
  | _ => none
def allBl : List D → Option (List Bool)
  | [] => some []
  | .bl i :: xs => (allBl xs).map (i :: ·)
  | _ => none
def allStr : List D → Option (List PySem.Str)
  | [] => some []
  | .str i :: xs => (allStr xs).map (i :: ·)
  | _ => none
def pyD (d : D) : PyData := (toPy d).getD .none
/-- the items of a sort: all alike, plain -/
def tupNE : D → Bool
  | .tup (_ :: _) => true
  | _ => false
def noTup : D → Bool
  | .tup _ => false
  | .non => false
  | _ => true
def sortable (xs : List D) : Bool := xs.all (fits 20) && (xs.all fun a => xs.all fun b => PySem.W.alike (pyD a) (pyD b)) && (xs.all tupNE || xs.all noTup)
def pairSum : D → Option Int
  | .tup [.int i, .int j] => some (i + j)
  | _ => none
def maxI : Int → List Int → Int
  | m, [] => m
  | m, x :: xs => maxI (if x > m then x else m) xs
def minI : Int → List Int → Int
  | m, [] => m
  | m, x :: xs => minI (if x < m then x else m) xs
def pairK : D → Option (L2.Key × D)
  | .tup [k, x] => (keyD k).map fun k => (k, x)
  | _ => none
def pairsK : List D → Option (List L2.Key × List D)
  | [] => some ([], [])
  | p :: ps => match pairK p, pairsK ps with
    | some (k, x), some (ks, xs) => if (ks.any fun q => decide (q = k)) then none else some (k :: ks, x :: xs)
    | _, _ => none
def digit : PySem.Str → Option Int := fun s => if s = "0" then some 0 else if s = "1" then some 1 else if s = "2" then some 2 else if s = "3" then some 3 else if s = "4" then some 4 else none
def strOf : Int → Option PySem.Str := fun i => if i = 0 then some "0" else if i = 1 then some "1" else if i = 2 then some "2" else if i = 3 then some "3" else if i = 4 then some "4" else none
def items : D → Option (List D)
  | .lst xs => some xs
  | .tup xs => some xs
  | .scr ns => some (ns.map .int)
  | _ => none
def keysD : D → Option (List D)
  | .dK ks _ => some (ks.map dKey)
  | .dT ks _ => some (ks.map fun k => .tup (k.map dKey))
  | _ => none
def lenD : D → Option Nat
  | .lst xs => some xs.length
  | .tup xs => some xs.length
  | .str s => if s.length ≤ LIM then some s.length else none
  | _ => none
def bi : BI → List D → Option D
  | .len, [a] => (lenD a).map fun n => .int n
  | .sorted, [.lst xs] => if sortable xs then some (.lst (xs.mergeSort (PySem.W.dataLe false pyD))) else none
  | .sortSum, [.lst xs] => if xs.all fun x => (pairSum x).isSome then some (.lst (xs.mergeSort fun a b => decide ((pairSum a).getD 0 ≤ (pairSum b).getD 0))) else none
  | .sortSet, [.lst xs] => (allInt xs).bind fun ns => if ns.length < 64 then some (.lst ((setSort ns).map .int)) else none
  | .list, [.lst xs] => some (.lst xs)
  | .list, [.tup xs] => some (.lst xs)
  | .list, [.dK ks _] => some (.lst (ks.map dKey))
  | .list, [.dT ks _] => some (.lst (ks.map fun k => .tup (k.map dKey)))
  | .tuple, [.lst xs] => some (.tup xs)
  | .tuple, [.tup xs] => some (.tup xs)
  | .all, [.lst xs] => (allBl xs).map fun bs => .bl (bs.all id)
  | .any, [.lst xs] => (allBl xs).map fun bs => .bl (bs.any id)
  | .abs, [.int i] => some (.int (if i < 0 then -i else i))
  | .int, [.int i] => some (.int i)
  | .int, [.str s] => (digit s).map .int
  | .bool, [.int i] => some (.bl (i != 0))
  | .str, [.int i] => (strOf i).map .str
  | .str, [.str s] => some (.str s)
  | .max, [.int i, .int j] => some (.int (if j > i then j else i))
  | .min, [.int i, .int j] => some (.int (if j < i then j else i))
  | .max, [.lst xs] => match allInt xs with
    | some (m :: ns) => some (.int (maxI m ns))
    | _ => none
  | .min, [.lst xs] => match allInt xs with
    | some (m :: ns) => some (.int (minI m ns))
    | _ => none
  | .isi t, [a] => if tyD a then some (.bl (isTy t a)) else none
  | .dict, [.lst xs] => (pairsK xs).map fun p => .dK p.1 p.2
  | .rng, [.int j] => if -1000000 < j ∧ j < 1000000 then some (.lst ((List.range j.toNat).map fun (i : Nat) => .int (i : Int))) else none
  | _, _ => none

/-! ### cells -/
def W.get (M : Mem) : W → Option D
  | .v d => some d
  | .c i => M[i]?
  | .f i g => match M[i]? with
    | some (.ins _ ks xs) => look ks xs g
    | _ => none
  | .n xs => some (.lst xs)
def W.set (M : Mem) (d : D) (w : W) : Option Mem := match w with
  | .c i => if i < M.length then some (M.set i d) else none
  | .f i g => match M[i]? with
    | some (.ins q ks xs) => if g ∈ ks then some (M.set i (.ins q ks (put ks xs g d).2)) else none
    | _ => none
  | _ => none
def isCell : W → Bool
  | W.c _ => true
  | W.f _ _ => true
  | _ => false
def allV : List W → Option (List D)
  | [] => some []
  | .v d :: ws => (allV ws).map (d :: ·)
  | _ => none
def gets (M : Mem) : List W → Option (List D)
  | [] => some []
  | w :: ws => match w.get M, gets M ws with
    | some d, some ds => some (d :: ds)
    | _, _ => none
/-! ### the language -/
inductive Tg where
  | v (i : Nat) | t (is : List Nat) | n (i : Nat) (is : List Nat)
def setAll : List Nat → List D → Env → Option Env
  | [], [], e => some e
  | i :: is, x :: xs, e => setAll is xs (e.set i (some (.v x)))
  | _, _, _ => none
def bindT : Tg → D → Env → Option Env
  | .v i, d, e => some (e.set i (some (.v d)))
  | .t is, .tup xs, e => setAll is xs e
  | .t is, .lst xs, e => setAll is xs e
  | .n i is, .tup [a, .tup xs], e => setAll is xs (e.set i (some (.v a)))
  | _, _, _ => none
def Tg.own : Tg → List Nat
  | .v i => [i]
  | .t is => is
  | .n i is => i :: is
def wipeE (e : Env) : List Nat → Env
  | [] => e
  | v :: vs => (wipeE e vs).set v none
mutual
inductive E where
  | var (i : Nat) | lit (d : D) | glo (x : PySem.Str) (d : D)
  | b2 (o : O2) (a b : E) | chain (o o' : O2) (a b c : E) | and (a b : E) | or (a b : E) | not (a : E) | neg (a : E) | ite (c a b : E)
  | tup (es : Es) | lst (es : Es) | newK | newT
  | idx (a i : E) | sl (a : E) (lo hi : OE) | rev (a : E) | fld (a : E) (g : Fd)
  | bi (b : BI) (es : Es) | get2 (o k e : E) | join (o e : E) | split (o e : E) | pop (o : E) | popAt (o i : E)
  | call (f : Nat) (es : Es) | mth (c f : Nat) (o : E) (es : Es) | make (c f : Nat) (es : Es) | dead
  | isE (a : E) | dig (a : E) | isC (c : Nat) (a : E) | peq (a b : E) | prop (f : Nat) (a : E) | callD (f : Nat) (es : Es) (d : D) | callK (f : Nat) (es : Es) (e : E) | lenO (c f : Nat) (o : E)
  | lc (elt : E) (tg : Tg) (it : It) (cond : OE) | lc2 (elt : E) (tg : Tg) (it : It) (tg2 : Tg) (it2 : It)
  | catN (a b : E)
inductive Es where
  | nil | cons (e : E) (es : Es) | star (e : E) (es : Es)
inductive OE where
  | no | so (e : E)
inductive It where
  | e (a : E) | keys (a : E) | items (a : E) | enum (a : E) | r1 (a : E) | r2 (a b : E)
end
/-! ### reading only: no call, nothing changed -/
mutual
def E.ro : E → Bool
  | .var _ => true
  | .lit _ => true
  | .glo _ _ => true
  | .b2 _ a b => a.ro && b.ro
  | .chain _ _ a b c => a.ro && b.ro && c.ro
  | .and a b => a.ro && b.ro
  | .or a b => a.ro && b.ro
  | .not a => a.ro
  | .neg a => a.ro
  | .ite c a b => c.ro && a.ro && b.ro
  | .tup es => es.ro
  | .idx a i => a.ro && i.ro
  | .fld a _ => a.ro
  | _ => false
def Es.ro : Es → Bool
  | .nil => true
  | .cons e es => e.ro && es.ro
  | .star _ _ => false
end
def OE.ro : OE → Bool
  | .no => true
  | .so e => e.ro
def optC (o : Option D) (zs : List D) : List D := match o with
  | some y => y :: zs
  | none => zs
def mapL (f : D → Mem → Rs (Option D)) : List D → Mem → Rs (List D)
  | [], M => .ok [] M
  | x :: xs, M => (f x M).bind fun o M1 => (mapL f xs M1).bind fun ys M2 => .ok (optC o ys) M2
def catL (f : D → Mem → Rs (List D)) : List D → Mem → Rs (List D)
  | [], M => .ok [] M
  | x :: xs, M => (f x M).bind fun o M1 => (catL f xs M1).bind fun ys M2 => .ok (o ++ ys) M2
/-- a comprehension lets no exception out -/
def noEx {α : Type} : Rs α → Rs α
  | .ok a M => .ok a M
  | _ => .no
def isPath : E → Bool
  | .var _ => true
  | .fld (.var _) _ => true
  | _ => false
def tstB (r : Rs W) : Rs Bool := r.bind fun w M => match w with
  | .v (.bl k) => .ok k M
  | _ => .no
def tst (r : Rs W) (f : Bool → Mem → Rs W) : Rs W := (tstB r).bind f
def rd (r : Rs W) (f : D → Mem → Rs W) : Rs W := r.bind fun w M => match w.get M with
  | some d => f d M
  | none => .no
def asD : W → Option D
  | .v d => some d
  | .n xs => some (.lst xs)
  | _ => none
def rv (r : Rs W) (f : D → Mem → Rs W) : Rs W := r.bind fun w M => match asD w with
  | some d => f d M
  | none => .no
def isDct : Option D → Bool
  | some (.dK _ _) => true
  | some (.dT _ _) => true
  | _ => false
def isLst : Option D → Bool
  | some (.lst _) => true
  | _ => false
def getD2 (q y z : D) : Option D := match q, y with
  | .dK ks xs, y => (keyD y).map fun q => (look ks xs q).getD z
  | .dT ks xs, .tup ts => (keyDs ts).map fun q => (look ks xs q).getD z
  | _, _ => none
def joinD (s : PySem.Str) (y : D) : Option D := match y with
  | .lst ys => (allStr ys).bind fun zs => if (zs.map (·.length)).sum + zs.length * s.length ≤ LIM then some (.str (Txt.join s zs)) else none
  | _ => none
def splitD (s : PySem.Str) (y : D) : Option D := match y with
  | .str t => if (t.length == 0) = false ∧ s.length + 2 ≤ LIM then some (.lst ((Txt.split s t).map .str)) else none
  | _ => none
def popL : D → Option (D × List D)
  | .lst xs => (xs[xs.length - 1]?).map fun y => (y, xs.dropLast)
  | _ => none
def popAtL (d k : D) : Option (D × List D) := match d, k with
  | .lst xs, .int k => if 0 ≤ k ∧ k < xs.length ∧ xs.length < LIM then (xs[k.toNat]?).map fun y => (y, xs.eraseIdx k.toNat) else none
  | _, _ => none
def popW (w : W) (o : Option (D × List D)) (M : Mem) : Rs W := match o with
  | some p => match w.set M (.lst p.2) with
    | some M1 => .ok (.v p.1) M1
    | none => .no
  | none => .no
def enumD : Nat → List D → List D
  | _, [] => []
  | n, x :: xs => .tup [.int n, x] :: enumD (n + 1) xs
def zipKD : List L2.Key → List D → List D
  | k :: ks, x :: xs => .tup [dKey k, x] :: zipKD ks xs
  | _, _ => []
def sliceD (a : D) (lo hi : Option Int) : Option D := match a with
  | .lst xs => some (.lst (cutD xs lo hi))
  | .tup xs => some (.tup (cutD xs lo hi))
  | _ => none
def fldW (w : W) (g : Fd) (M : Mem) : Option W := match w with
  | .v (.ins c ks xs) => if okF c g then (look ks xs g).map .v else none
  | .c i => match M[i]? with
    | some (.ins c ks xs) => if okF c g then (if owned g then (if g ∈ ks then some (.f i g) else none) else (look ks xs g).map .v) else none
    | _ => none
  | _ => none
def toV (r : Rs W) : Rs W := r.bind fun w M => match w with
  | .n xs => .ok (.v (.lst xs)) M
  | w => .ok w M
/-- behind __init__: the new object by value -/
def madeV (n : Nat) (r : Rs W) : Rs W := match r with
  | .ok w M => match w, M[n]? with
    | .v .non, some (.ins c ks xs) => .ok (.v (.ins c ks xs)) (M.take n)
    | _, _ => .no
  | .ex c f M => .ex c f (M.take n)
  | .no => .no
section
variable (cl : Nat → List W → Mem → Rs W)
mutual
def evE : E → Env → Mem → Rs W
  | .var i, e, M => match e[i]? with
    | some (some (.n _)) => .no
    | some (some w) => .ok w M
    | _ => .no
  | .lit d, _, M => .ok (.v d) M
  | .glo _ d, _, M => .ok (.v d) M
  | .b2 o a b, e, M => (evE a e M).bind fun wa M1 => rd (evE b e M1) fun y M2 => match wa.get M2 with
    | some x => (ofO (op2 o x y) M2).bind fun z M3 => .ok (.v z) M3
    | none => .no
  | .chain o o' a b c, e, M => (evE a e M).bind fun wa M1 => (evE b e M1).bind fun wb M2 => match wa, wb with
    | .v x, .v y => (match op2 o x y with
      | some (.bl true) => (evE c e M2).bind fun wc M3 => (match wc with
        | .v z => (ofO (op2 o' y z) M3).bind fun r M4 => .ok (.v r) M4
        | _ => .no)
      | some (.bl false) => .ok (.v (.bl false)) M2
      | _ => .no)
    | _, _ => .no
  | .and a b, e, M => tst (evE a e M) fun k M1 => match k with
    | true => tst (evE b e M1) fun k M2 => .ok (.v (.bl k)) M2
    | false => .ok (.v (.bl false)) M1
  | .or a b, e, M => tst (evE a e M) fun k M1 => match k with
    | true => .ok (.v (.bl true)) M1
    | false => tst (evE b e M1) fun k M2 => .ok (.v (.bl k)) M2
  | .not a, e, M => tst (evE a e M) fun k M1 => .ok (.v (.bl !k)) M1
  | .neg a, e, M => rd (evE a e M) fun x M1 => match x with
    | .int i => .ok (.v (.int (-i))) M1
    | _ => .no
  | .ite c a b, e, M => tst (evE c e M) fun k M1 => match k with
    | true => evE a e M1
    | false => evE b e M1
  | .tup es, e, M => (evEs es e M).bind fun ws M1 => match allV ws with
    | some ds => if ds.length ≤ LIM then .ok (.v (.tup ds)) M1 else .no
    | none => .no
  | .lst es, e, M => (evEs es e M).bind fun ws M1 => match allV ws with
    | some ds => if ds.length ≤ LIM then .ok (.n ds) M1 else .no
    | none => .no
  | .newK, _, M => .ok (.v (.dK [] [])) M
  | .newT, _, M => .ok (.v (.dT [] [])) M
  | .idx a i, e, M => (evE a e M).bind fun wa M1 => rd (evE i e M1) fun y M2 => match wa.get M2 with
    | some x => (ofO (idxD x y) M2).bind fun z M3 => .ok (.v z) M3
    | none => .no
  | .sl a lo hi, e, M => (evE a e M).bind fun wa M1 => (evOE lo e M1).bind fun l M2 => (evOE hi e M2).bind fun h M3 => match wa.get M3 with
    | some x => (ofO (sliceD x l h) M3).bind fun z M4 => .ok (.v z) M4
    | none => .no
  | .rev a, e, M => rd (evE a e M) fun x M1 => match x with
    | .lst xs => .ok (.v (.lst xs.reverse)) M1
    | _ => .no
  | .fld a g, e, M => (evE a e M).bind fun w M1 => ofO (fldW w g M1) M1
  | .bi b es, e, M => (evEs es e M).bind fun ws M1 => match gets M1 ws with
    | some ds => (ofO (bi b ds) M1).bind fun z M2 => .ok (.v z) M2
    | none => .no
  | .get2 o k d, e, M => (evE o e M).bind fun wo M1 => match isDct (wo.get M1) with
    | true => rv (evE k e M1) fun y M2 => rv (evE d e M2) fun z M3 => (ofO ((wo.get M3).bind fun q => getD2 q y z) M3).bind fun z M4 => .ok (.v z) M4
    | false => .no
  | .join o a, e, M => rd (evE o e M) fun x M1 => match x with
    | .str s => rd (evE a e M1) fun y M2 => (ofO (joinD s y) M2).bind fun z M3 => .ok (.v z) M3
    | _ => .no
  | .split o a, e, M => rd (evE o e M) fun x M1 => match x with
    | .str s => rd (evE a e M1) fun y M2 => (ofO (splitD s y) M2).bind fun z M3 => .ok (.v z) M3
    | _ => .no
  | .pop o, e, M => (evE o e M).bind fun w M1 => match w.get M1 with
    | some d => popW w (popL d) M1
    | none => .no
  | .popAt o i, e, M => (evE o e M).bind fun w M1 => match isLst (w.get M1) with
    | true => rd (evE i e M1) fun k M2 => match w.get M2 with
      | some d => popW w (popAtL d k) M2
      | none => .no
    | false => .no
  | .call f es, e, M => (evEs es e M).bind fun ws M1 => toV (cl f ws M1)
  | .mth c f o es, e, M => (evE o e M).bind fun w M1 => match w.get M1 with
    | some (.ins c' _ _) => if c' = c then (evEs es e M1).bind fun ws M2 => toV (cl f (w :: ws) M2) else .no
    | _ => .no
  | .dead, _, _ => .no
  | .isE a, e, M => (evE a e M).bind fun w M1 => match w.get M1 with
    | some (.dK ks _) => .ok (.v (.bl ks.isEmpty)) M1
    | some (.dT ks _) => .ok (.v (.bl ks.isEmpty)) M1
    | _ => .no
  | .dig a, e, M => rd (evE a e M) fun x M1 => match x with
    | .str s => .ok (.v (.bl (digit s).isSome)) M1
    | _ => .no
  | .isC c a, e, M => (evE a e M).bind fun w M1 => match w.get M1 with
    | some (.ins c' _ _) => .ok (.v (.bl (c' == c))) M1
    | some d => if tyD d then .ok (.v (.bl false)) M1 else .no
    | none => .no
  | .peq a b, e, M => (evE a e M).bind fun wa M1 => match wa.get M1 with
    | some (.ins 10 _ _) => (toV (evE b e M1)).bind fun wb M2 => match wb.get M2 with
      | some (.ins 10 _ _) => toV (cl 59 [wa, wb] M2)
      | some (.tup _) => toV (cl 59 [wa, wb] M2)
      | _ => .no
    | _ => .no
  | .prop f a, e, M => (evE a e M).bind fun w M1 => match w.get M1 with
    | some (.ins 10 _ _) => toV (cl f [w] M1)
    | _ => .no
  | .callD f es d, e, M => (evEs es e M).bind fun ws M1 => toV (cl f (ws ++ [.v d]) M1)
  | .callK f es a, e, M => (evEs es e M).bind fun ws M1 => (toV (evE a e M1)).bind fun w M2 => toV (cl f (ws ++ [w]) M2)
  | .lenO c f o, e, M => (evE o e M).bind fun w M1 => match w.get M1 with
    | some (.ins c' _ _) => if c' = c then (cl f [w] M1).bind fun w2 M2 => (match w2 with
      | .v (.int n) => if 0 ≤ n ∧ n < 9223372036854775808 then .ok (.v (.int n)) M2 else .no
      | _ => .no) else .no
    | _ => .no
  | .make c f es, e, M => (evEs es e M).bind fun ws M1 => madeV M1.length (cl f (.c M1.length :: ws) (M1 ++ [.ins c [] []]))
  | .lc elt tg it cond, e, M => (evIt it e M).bind fun p M1 => if p.1 = true ∧ (elt.ro && cond.ro) = false then .no else
      (mapL (fun x M2 => match bindT tg x (wipeE e tg.own) with
        | none => .no
        | some e1 => (noEx (evT cond e1 M2)).bind fun k M3 => match k with
            | true => (noEx (evE elt e1 M3)).bind fun w M4 => match asD w with
              | some d => .ok (some d) M4
              | none => .no
            | false => .ok none M3) p.2 M1).bind fun ys M2 => if ys.length ≤ LIM then .ok (.n ys) M2 else .no
  | .lc2 elt tg it tg2 it2, e, M => (evIt it e M).bind fun p M1 => if p.1 = true then .no else
      (catL (fun x M2 => match bindT tg x (wipeE e (tg.own ++ tg2.own)) with
        | none => .no
        | some e1 => (noEx (evIt it2 e1 M2)).bind fun q M3 => if q.1 = true then .no else
          mapL (fun y M4 => match bindT tg2 y (wipeE e1 tg2.own) with
            | none => .no
            | some e2 => (noEx (evE elt e2 M4)).bind fun w M5 => match asD w with
              | some d => .ok (some d) M5
              | none => .no) q.2 M3) p.2 M1).bind fun ys M2 => if ys.length ≤ LIM then .ok (.n ys) M2 else .no
  | .catN a b, e, M => (evE a e M).bind fun wa M1 => rd (evE b e M1) fun y M2 => match wa.get M2, y with
    | some (.lst xs), .lst ys => if xs.length + ys.length ≤ LIM then .ok (.n (xs ++ ys)) M2 else .no
    | _, _ => .no
def evEs : Es → Env → Mem → Rs (List W)
  | .nil, _, M => .ok [] M
  | .cons a es, e, M => (toV (evE a e M)).bind fun w M1 => (evEs es e M1).bind fun ws M2 => .ok (w :: ws) M2
  | .star a es, e, M => (evE a e M).bind fun w M1 => match w.get M1 with
    | some (.lst xs) => (evEs es e M1).bind fun ws M2 => .ok (xs.map .v ++ ws) M2
    | some (.tup xs) => (evEs es e M1).bind fun ws M2 => .ok (xs.map .v ++ ws) M2
    | _ => .no
def evT : OE → Env → Mem → Rs Bool
  | .no, _, M => .ok true M
  | .so c, e, M => tstB (evE c e M)
def evOE : OE → Env → Mem → Rs (Option Int)
  | .no, _, M => .ok none M
  | .so a, e, M => (evE a e M).bind fun w M1 => match w.get M1 with
    | some (.int i) => .ok (some i) M1
    | _ => .no
def evIt : It → Env → Mem → Rs (Bool × List D)
  | .e a, e, M => (evE a e M).bind fun w M1 => match w.get M1 with
    | some d => (ofO (items d) M1).bind fun xs M2 => .ok (isCell w, xs) M2
    | none => .no
  | .keys a, e, M => match isPath a with
    | true => (evE a e M).bind fun w M1 => match w.get M1 with
      | some d => (ofO (keysD d) M1).bind fun xs M2 => .ok (isCell w, xs) M2
      | none => .no
    | false => .no
  | .items a, e, M => match isPath a with
    | true => (evE a e M).bind fun w M1 => match w.get M1 with
      | some (.dK ks xs) => .ok (isCell w, zipKD ks xs) M1
      | _ => .no
    | false => .no
  | .enum a, e, M => (evE a e M).bind fun w M1 => match w.get M1 with
    | some (.lst xs) => .ok (isCell w, enumD 0 xs) M1
    | some (.tup xs) => .ok (isCell w, enumD 0 xs) M1
    | _ => .no
  | .r1 a, e, M => (evE a e M).bind fun w M1 => match w.get M1 with
    | some (.int j) => if -1000000 < j ∧ j < 1000000 then .ok (false, (List.range j.toNat).map fun (i : Nat) => .int (i : Int)) M1 else .no
    | _ => .no
  | .r2 a b, e, M => (evE a e M).bind fun wa M1 => (evE b e M1).bind fun wb M2 => match wa.get M2, wb.get M2 with
    | some (.int i), some (.int j) => if -1000000 < i ∧ i < 1000000 ∧ -1000000 < j ∧ j < 1000000 then .ok (false, (List.range (j - i).toNat).map fun (n : Nat) => .int (i + (n : Int))) M2 else .no
    | _, _ => .no
end
end
/-! ### statements -/
inductive Su where
  | lit (i : Nat) (d : D) | inc (i : Nat) | fld (i : Nat)
mutual
inductive S where
  | set (i : Nat) (e : E) | setC (i : Nat) (e : E) | setK (i : Nat) | setT (i : Nat) | setCall (i f : Nat) (es : Es) | setMk (i c f : Nat) (es : Es) | par (i j : Nat) (a b : E) | parC (i j : Nat) | unp (tg : Tg) (e : E)
  | ret (e : E) | retN | retL (es : Es) | ite (c : E) (a b : Ss) | loop (tg : Tg) (it : It) (body : Ss) | loopD (tg : Tg) (it : It) (body : Ss) | ex (e : E)
  | app (o e : E) | extnd (o e : E) | put (o k e : E) | setd (o k e : E) | fput (o : E) (g : Fd) (e : E) | fnew (o : E) (g : Fd) (e : E)
  | raise (c : Nat) (es : Es) | try_ (xs : List Nat) (body : Ss) (hs : List (Nat × Option Nat × Su)) | pass | dead
inductive Ss where
  | nil | cons (s : S) (ss : Ss)
end
def isSub (c b : Nat) : Bool := decide (c = b) || decide (b = 0)
def onR {α : Type} (r : Rs α) (e : Env) (f : α → Mem → Rt) : Rt := match r with
  | .ok a M => f a M
  | .ex c g M => .ex c g e M
  | .no => .no
def thenR (r : Rt) (f : Env → Mem → Rt) : Rt := match r with
  | .nx e M => f e M
  | r => r
def loopR (f : D → Env → Mem → Rt) : List D → Env → Mem → Rt
  | [], e, M => .nx e M
  | x :: xs, e, M => thenR (f x e M) fun e1 M1 => loopR f xs e1 M1
/-- a walk over a locked dict lets no exception out -/
def noExT : Rt → Rt
  | .ex _ _ _ _ => .no
  | r => r
def suR (su : Su) (f : D) (e : Env) (M : Mem) : Rt := match su with
  | .lit i d => .nx (e.set i (some (.v d))) M
  | .inc i => match e[i]? with
    | some (some (.v (.int n))) => .nx (e.set i (some (.v (.int (n + 1))))) M
    | _ => .no
  | .fld i => .nx (e.set i (some (.v f))) M
def nmR (n : Option Nat) (e : Env) : Env := match n with
  | some i => e.set i none
  | none => e
def caught (c : Nat) (f : D) (e : Env) (M : Mem) : List (Nat × Option Nat × Su) → Rt
  | [] => .ex c f e M
  | (b, n, su) :: hs => if isSub c b then thenR (suR su f e M) fun e1 M1 => .nx (nmR n e1) M1 else caught c f e M hs
def tryR (xs : List Nat) (r : Rt) (hs : List (Nat × Option Nat × Su)) : Rt := match r with
  | .ex c f e M => if c ∈ xs then caught c f e M hs else .no
  | r => r
/-- what a cell's content may be by value -/
def plainC : D → Bool
  | .lst _ => true
  | .dK _ _ => true
  | .dT _ _ => true
  | _ => false
def valW (n0 : Nat) (M : Mem) : W → Option D
  | .v d => some d
  | .n xs => some (.lst xs)
  | .c i => match M[i]? with
    | some d => if plainC d = true ∧ n0 ≤ i then some d else none
    | none => none
  | .f _ _ => none
def valWs (n0 : Nat) (M : Mem) : List W → Option (List D)
  | [] => some []
  | w :: ws => match valW n0 M w, valWs n0 M ws with
    | some d, some ds => some (d :: ds)
    | _, _ => none
def putD (x k y : D) : Option D := match x, k with
  | .lst xs, .int i => (L2.ixN xs.length i).map fun j => .lst (xs.set j y)
  | .dK ks xs, k => (keyD k).bind fun k => if ks.length < LIM then some (.dK (put ks xs k y).1 (put ks xs k y).2) else none
  | .dT ks xs, .tup ts => (keyDs ts).bind fun k => if ks.length < LIM then some (.dT (put ks xs k y).1 (put ks xs k y).2) else none
  | _, _ => none
def setdD (x k y : D) : Option D := match x, k with
  | .dK ks xs, k => (keyD k).bind fun k => if ks.length < LIM then some (match look ks xs k with
    | some _ => .dK ks xs
    | none => .dK (put ks xs k y).1 (put ks xs k y).2) else none
  | .dT ks xs, .tup ts => (keyDs ts).bind fun k => if ks.length < LIM then some (match look ks xs k with
    | some _ => .dT ks xs
    | none => .dT (put ks xs k y).1 (put ks xs k y).2) else none
  | _, _ => none
def appD (x y : D) : Option D := match x with
  | .lst xs => if xs.length < LIM then some (.lst (xs ++ [y])) else none
  | _ => none
def extD (x y : D) : Option D := match x, y with
  | .lst xs, .lst ys => if xs.length + ys.length ≤ LIM then some (.lst (xs ++ ys)) else none
  | _, _ => none
/-- change what w holds by f -/
def chg (w : W) (f : D → Option D) (M : Mem) : Option Mem := match w.get M with
  | some x => match f x with
    | some y => w.set M y
    | none => none
  | none => none
def nxO (e : Env) (o : Option Mem) : Rt := match o with
  | some M => .nx e M
  | none => .no
def fputM (w : W) (g : Fd) (d : D) (M : Mem) : Option Mem := match w with
  | .c i => match M[i]? with
    | some (.ins c ks xs) => if okF c g = true ∧ ks.length < 100 then some (M.set i (.ins c (put ks xs g d).1 (put ks xs g d).2)) else none
    | _ => none
  | _ => none
/-- a new field -/
def fnewM (w : W) (g : Fd) (d : D) (M : Mem) : Option Mem := match w with
  | .c i => match M[i]? with
    | some (.ins c ks xs) => if okF c g = true ∧ ks.length < 100 ∧ g ∉ ks then some (M.set i (.ins c (ks ++ [g]) (xs ++ [d]))) else none
    | _ => none
  | _ => none
/-- where a container of the object's own may be put: in a cell of one's own -/
def mine (n0 : Nat) : W → Bool
  | .c i => decide (n0 ≤ i)
  | _ => false
section
variable (cl : Nat → List W → Mem → Rs W) (n0 : Nat)
mutual
def evS : S → Env → Mem → Rt
  | .set i e, v, M => onR (toV (evE cl e v M)) v fun w M1 => match w with
    | .f _ _ => .no
    | w => .nx (v.set i (some w)) M1
  | .setC i e, v, M => onR (evE cl e v M) v fun w M1 => match w with
    | .n xs => .nx (v.set i (some (.c M1.length))) (M1 ++ [.lst xs])
    | _ => .no
  | .setK i, v, M => .nx (v.set i (some (.c M.length))) (M ++ [.dK [] []])
  | .setT i, v, M => .nx (v.set i (some (.c M.length))) (M ++ [.dT [] []])
  | .setCall i f es, v, M => onR ((evEs cl es v M).bind fun ws M1 => cl f ws M1) v fun w M1 => match w with
    | .n xs => .nx (v.set i (some (.c M1.length))) (M1 ++ [.lst xs])
    | _ => .no
  | .setMk i c f es, v, M => onR (evEs cl es v M) v fun ws M1 => onR (cl f (.c M1.length :: ws) (M1 ++ [.ins c [] []])) v fun w M2 => match w with
    | .v .non => .nx (v.set i (some (.c M1.length))) M2
    | _ => .no
  | .par i j a b, v, M => onR (toV (evE cl a v M)) v fun wa M1 => onR (toV (evE cl b v M1)) v fun wb M2 => match asD wa, asD wb with
    | some x, some y => .nx ((v.set i (some (.v x))).set j (some (.v y))) M2
    | _, _ => .no
  | .parC i j, v, M => .nx ((v.set i (some (.c M.length))).set j (some (.c (M.length + 1)))) (M ++ [.lst []] ++ [.lst []])
  | .unp tg e, v, M => onR (evE cl e v M) v fun w M1 => match w with
    | .v d => match bindT tg d v with
      | some v1 => .nx v1 M1
      | none => .no
    | _ => .no
  | .ret e, v, M => onR (evE cl e v M) v fun w M1 => .rt w M1
  | .retN, _, M => .rt (.v .non) M
  | .retL es, v, M => onR (evEs cl es v M) v fun ws M1 => match valWs n0 M1 ws with
    | some ds => if ds.length ≤ LIM then .rt (.v (.lst ds)) M1 else .no
    | none => .no
  | .ite c a b, v, M => onR (tstB (evE cl c v M)) v fun k M1 => match k with
    | true => evSs a v M1
    | false => evSs b v M1
  | .loop tg it body, v, M => onR (evIt cl it v M) v fun p M1 => if p.1 = true then .no else loopR (fun x v1 M2 => match bindT tg x v1 with
    | some v2 => evSs body v2 M2
    | none => .no) p.2 v M1
  | .loopD tg it body, v, M => onR (evIt cl it v M) v fun p M1 => if p.1 = true then .no else noExT (loopR (fun x v1 M2 => match bindT tg x v1 with
    | some v2 => evSs body v2 M2
    | none => .no) p.2 v M1)
  | .ex e, v, M => onR (evE cl e v M) v fun _ M1 => .nx v M1
  | .app o e, v, M => onR (evE cl o v M) v fun w M1 => match isLst (w.get M1) with
    | true => onR (evE cl e v M1) v fun y M2 => match asD y with
      | some y => nxO v (chg w (fun x => appD x y) M2)
      | none => .no
    | false => .no
  | .extnd o e, v, M => onR (evE cl o v M) v fun w M1 => match isLst (w.get M1) with
    | true => onR (evE cl e v M1) v fun y M2 => match asD y with
      | some y => nxO v (chg w (fun x => extD x y) M2)
      | none => .no
    | false => .no
  | .put o k e, v, M => onR (evE cl e v M) v fun y M1 => onR (evE cl o v M1) v fun w M2 => onR (evE cl k v M2) v fun q M3 => match asD y, q with
    | some y, .v q => nxO v (chg w (fun x => putD x q y) M3)
    | _, _ => .no
  | .setd o k e, v, M => onR (evE cl o v M) v fun w M1 => match isDct (w.get M1) with
    | true => onR (evE cl k v M1) v fun q M2 => onR (evE cl e v M2) v fun y M3 => match q, y with
      | .v q, .v y => nxO v (chg w (fun x => setdD x q y) M3)
      | _, _ => .no
    | false => .no
  | .fput o g e, v, M => onR (evE cl e v M) v fun y M1 => onR (evE cl o v M1) v fun w M2 => match asD y with
    | some y => if owned g then .no else nxO v (fputM w g y M2)
    | none => .no
  | .fnew o g e, v, M => onR (evE cl e v M) v fun y M1 => onR (evE cl o v M1) v fun w M2 => match y with
    | .n [] => if owned g && mine n0 w then nxO v (fnewM w g (.lst []) M2) else .no
    | .v (.dK [] []) => if owned g && mine n0 w then nxO v (fnewM w g (.dK [] []) M2) else .no
    | _ => .no
  | .raise c es, v, M => onR (evEs cl es v M) v fun ws M1 => match ws with
    | [] => .ex c .non v M1
    | [.v d] => .ex c d v M1
    | _ => .no
  | .try_ xs body hs, v, M => tryR xs (evSs body v M) hs
  | .pass, v, M => .nx v M
  | .dead, _, _ => .no
def evSs : Ss → Env → Mem → Rt
  | .nil, v, M => .nx v M
  | .cons s ss, v, M => thenR (evS s v M) fun v1 M1 => evSs ss v1 M1
end
end
/-! ### defs -/
structure FD where
  init : Bool
  np : Nat
  ns : Nat
  body : Ss
def outW (n : Nat) (w : W) (M : Mem) : Rs W := match w with
  | .v d => .ok (.v d) (M.take n)
  | .n xs => .ok (.n xs) (M.take n)
  | .c i => if i < n then .ok (.c i) (M.take n) else match M[i]? with
    | some d => if plainC d then .ok (.v d) (M.take n) else .no
    | none => .no
  | .f _ _ => .no
def outR (n : Nat) : Rt → Rs W
  | .nx _ M => .ok (.v .non) (M.take n)
  | .rt w M => outW n w M
  | .ex c f _ M => .ex c f (M.take n)
  | .no => .no
def env0 (d : FD) (ws : List W) : Env := ws.map some ++ List.replicate (d.ns - ws.length) none
/-- __init__ may give its object containers -/
def n0F (d : FD) (M : Mem) : Nat := if d.init then M.length - 1 else M.length
/-- __init__ returns None -/
def initR : Rs W → Rs W
  | .ok (.v .non) M => .ok (.v .non) M
  | .ok _ _ => .no
  | .ex c f M => .ex c f M
  | .no => .no
def runF (cl : Nat → List W → Mem → Rs W) (d : FD) (ws : List W) (M : Mem) : Rs W :=
  if ws.length = d.np then (if d.init then initR (outR M.length (evSs cl (n0F d M) d.body (env0 d ws) M)) else outR M.length (evSs cl (n0F d M) d.body (env0 d ws) M)) else .no
def callF (tbl : Nat → Option FD) : Nat → Nat → List W → Mem → Rs W
  | 0, _, _, _ => .no
  | k + 1, f, ws, M => match tbl f with
    | some d => runF (callF tbl k) d ws M
    | none => .no
end Bf

set_option Elab.async false
set_option linter.all false
/-! How data, cells and slots stand in the abstract heap. -/
namespace Bf
open PySem L2
/-- what the top has left: the written part, the classes' addresses, the fields' names -/
structure Glo where
  K : PySem.W.Frag
  cA : Nat → Addr
  has : Nat → Bool
structure CA where
  a : Addr
  own : List (Fd × Addr)
def CA.all (c : CA) : List Addr := c.a :: c.own.map (·.2)
def av (cs : List CA) : List Addr := cs.flatMap CA.all
abbrev NV (cs : List CA) (B : List Addr) : List Addr := av cs ++ B
mutual
inductive Rv (g : Glo) (H : Hp) (N : List Addr) : D → V → Prop
  | non : Rv g H N .non .non
  | bl (b : Bool) : Rv g H N (.bl b) (.bl b)
  | int (i : Int) : Rv g H N (.int i) (.int i)
  | str (s : PySem.Str) : Rv g H N (.str s) (.str s)
  | tup {a : Addr} {vs : List V} {xs : List D} : H a = some (.tup vs) → a ∉ N → Rl g H N xs vs → Rv g H N (.tup xs) (.ref a)
  | lst {a : Addr} {vs : List V} {xs : List D} : H a = some (.lst vs) → a ∉ N → Rl g H N xs vs → Rv g H N (.lst xs) (.ref a)
  | dK {a : Addr} {kvs : List (Key × V)} {ks : List Key} {vs : List V} {xs : List D} : Rd H a (.dK kvs) → a ∉ N → kvs.map (·.1) = ks → kvs.map (·.2) = vs → Rl g H N xs vs → Rv g H N (.dK ks xs) (.ref a)
  | dT {a : Addr} {kvs : List (List Key × V)} {ks : List (List Key)} {vs : List V} {xs : List D} : Rd H a (.dT kvs) → a ∉ N → kvs.map (·.1) = ks → kvs.map (·.2) = vs → Rl g H N xs vs → Rv g H N (.dT ks xs) (.ref a)
  | ins {a dx : Addr} {c : Nat} {fvs : List (PySem.Str × V)} {ks : List Fd} {vs : List V} {xs : List D} : g.has c = true → H a = some (.ins (g.cA c) dx fvs) → a ∉ N → fvs.map (·.1) = ks.map Fd.nm → fvs.map (·.2) = vs → Rl g H N xs vs → Rv g H N (.ins c ks xs) (.ref a)
  | scr {a : Addr} {ns : List Int} : Rd H a (.lst (ns.map V.int)) → a ∉ N → Rv g H N (.scr ns) (.ref a)
  | scrK {a : Addr} {ns : List Int} : (∃ (o : Obj) (its : Array Value) (n : Nat), g.K.lookup a = some o ∧ o.cls = .type "list" ∧ o.dict = none ∧ o.data = .seq its n ∧ its.size ≤ sizeLine ∧ Vals (ns.map V.int) its.toList) → Rv g H N (.scr ns) (.ref a)
inductive Rl (g : Glo) (H : Hp) (N : List Addr) : List D → List V → Prop
  | nil : Rl g H N [] []
  | cons {x : D} {v : V} {xs : List D} {vs : List V} : Rv g H N x v → Rl g H N xs vs → Rl g H N (x :: xs) (v :: vs)
end
/-- a heap that keeps all that data read, other places avoided -/
structure Keep (H : Hp) (N : List Addr) (H' : Hp) (N' : List Addr) : Prop where
  keep : ∀ a o, H a = some o → a ∉ N → H' a = some o
  sub : ∀ a o, H a = some o → a ∉ N → a ∉ N'
section
variable {g : Glo} {H H' H1 H2 : Hp} {N N' : List Addr} {cs cs' : List CA} {B L : List Addr}
theorem Keep.refl : Keep H N H N := ⟨fun _ _ h _ => h, fun _ _ _ h => h⟩
theorem Keep.rd (k : Keep H N H' N') {a : Addr} {u : HO} (h : Rd H a u) (n : a ∉ N) : Rd H' a u ∧ a ∉ N' := by
  rcases h with h | ⟨o, h⟩
  · exact ⟨.inl (k.keep _ _ h n), k.sub _ _ h n⟩
  · exact ⟨.inr ⟨o, k.keep _ _ h n⟩, k.sub _ _ h n⟩
mutual
theorem Rv.keep (k : Keep H N H' N') : ∀ {d : D} {v : V}, Rv g H N d v → Rv g H' N' d v
  | _, _, .non => .non
  | _, _, .bl b => .bl b
  | _, _, .int b => .int b
  | _, _, .str b => .str b
  | _, _, .tup h n r => .tup (k.keep _ _ h n) (k.sub _ _ h n) (Rl.keep k r)
  | _, _, .lst h n r => .lst (k.keep _ _ h n) (k.sub _ _ h n) (Rl.keep k r)
  | _, _, .dK h n e e2 r => .dK (k.rd h n).1 (k.rd h n).2 e e2 (Rl.keep k r)
  | _, _, .dT h n e e2 r => .dT (k.rd h n).1 (k.rd h n).2 e e2 (Rl.keep k r)
  | _, _, .ins hc h n e e2 r => .ins hc (k.keep _ _ h n) (k.sub _ _ h n) e e2 (Rl.keep k r)
  | _, _, .scr h n => .scr (k.rd h n).1 (k.rd h n).2
  | _, _, .scrK h => .scrK h
theorem Rl.keep (k : Keep H N H' N') : ∀ {ds : List D} {vs : List V}, Rl g H N ds vs → Rl g H' N' ds vs
  | _, _, .nil => .nil
  | _, _, .cons r t => .cons (Rv.keep k r) (Rl.keep k t)
end
theorem Rl.length : ∀ {ds : List D} {vs : List V}, Rl g H N ds vs → vs.length = ds.length
  | _, _, .nil => rfl
  | _, _, .cons _ t => congrArg (· + 1) (Rl.length t)
theorem Rl.get : ∀ {ds : List D} {vs : List V} {i : Nat} {d : D}, Rl g H N ds vs → ds[i]? = some d → ∃ v, vs[i]? = some v ∧ Rv g H N d v
  | _, _, _, _, .nil, e => by simp at e
  | _, _, 0, _, .cons r _, e => by simp at e; subst e; exact ⟨_, rfl, r⟩
  | _, _, i + 1, d, .cons _ t, e => by
    obtain ⟨v, h1, h2⟩ := Rl.get (i := i) (d := d) t (by simpa using e)
    exact ⟨v, by simpa using h1, h2⟩
theorem Rl.getV : ∀ {ds : List D} {vs : List V} {i : Nat} {v : V}, Rl g H N ds vs → vs[i]? = some v → ∃ d, ds[i]? = some d ∧ Rv g H N d v
  | _, _, _, _, .nil, e => by simp at e
  | _, _, 0, _, .cons r _, e => by simp at e; subst e; exact ⟨_, rfl, r⟩
  | _, _, i + 1, d, .cons _ t, e => by
    obtain ⟨v, h1, h2⟩ := Rl.getV (i := i) (v := d) t (by simpa using e)
    exact ⟨v, by simpa using h1, h2⟩
theorem Rl.append : ∀ {xs ys : List D} {us vs : List V}, Rl g H N xs us → Rl g H N ys vs → Rl g H N (xs ++ ys) (us ++ vs)
  | _, _, _, _, .nil, s => s
  | _, _, _, _, .cons r t, s => .cons r (Rl.append t s)
theorem Rl.take : ∀ {xs : List D} {us : List V} (n : Nat), Rl g H N xs us → Rl g H N (xs.take n) (us.take n)
  | _, _, 0, _ => .nil
  | _, _, _ + 1, .nil => .nil
  | _, _, n + 1, .cons r t => .cons r (Rl.take n t)
theorem Rl.drop : ∀ {xs : List D} {us : List V} (n : Nat), Rl g H N xs us → Rl g H N (xs.drop n) (us.drop n)
  | _, _, 0, r => r
  | _, _, _ + 1, .nil => .nil
  | _, _, n + 1, .cons _ t => Rl.drop n t
theorem Rl.reverse {xs : List D} {us : List V} (h : Rl g H N xs us) : Rl g H N xs.reverse us.reverse := by
  induction h using Rl.rec (motive_1 := fun _ _ _ => True) with
  | nil => exact .nil
  | cons r t _ ih => rw [List.reverse_cons, List.reverse_cons]; exact ih.append (.cons r .nil)
  | _ => trivial
theorem Rl.set {x : D} {v : V} (r : Rv g H N x v) : ∀ {xs : List D} {us : List V} (i : Nat), Rl g H N xs us → Rl g H N (xs.set i x) (us.set i v)
  | _, _, _, .nil => .nil
  | _, _, 0, .cons _ t => .cons r t
  | _, _, i + 1, .cons q t => .cons q (Rl.set r i t)
theorem Rl.erase : ∀ {xs : List D} {us : List V} (i : Nat), Rl g H N xs us → Rl g H N (xs.eraseIdx i) (us.eraseIdx i)
  | _, _, _, .nil => .nil
  | _, _, 0, .cons _ t => t
  | _, _, i + 1, .cons q t => .cons q (Rl.erase i t)
theorem Rl.dropLast {xs : List D} {us : List V} (h : Rl g H N xs us) : Rl g H N xs.dropLast us.dropLast := by
  rw [List.dropLast_eq_take, List.dropLast_eq_take, h.length]
  exact h.take _
theorem Rl.rep {xs : List D} {us : List V} (h : Rl g H N xs us) : ∀ k : Nat, Rl g H N (List.replicate k xs).flatten (List.replicate k us).flatten
  | 0 => .nil
  | k + 1 => by rw [List.replicate_succ, List.replicate_succ, List.flatten_cons, List.flatten_cons]; exact h.append (Rl.rep h k)
theorem Rl.ints : ∀ (ns : List Int), Rl g H N (ns.map .int) (ns.map V.int)
  | [] => .nil
  | i :: ns => .cons (.int i) (Rl.ints ns)
theorem Rl.toInts : ∀ {ds : List D} {vs : List V} {ns : List Int}, Rl g H N ds vs → allInt ds = some ns → vs = ns.map V.int
  | _, _, _, .nil, e => by cases e; rfl
  | _, _, ns, .cons (x := x) r t, e => by
    cases x with
    | int i =>
      simp only [allInt, Option.map_eq_some_iff] at e
      obtain ⟨ms, e, rfl⟩ := e
      cases r
      rw [Rl.toInts t e]; rfl
    | _ => cases e
theorem Rl.toBls : ∀ {ds : List D} {vs : List V} {ns : List Bool}, Rl g H N ds vs → allBl ds = some ns → vs = ns.map V.bl
  | _, _, _, .nil, e => by cases e; rfl
  | _, _, ns, .cons (x := x) r t, e => by
    cases x with
    | bl i =>
      simp only [allBl, Option.map_eq_some_iff] at e
      obtain ⟨ms, e, rfl⟩ := e
      cases r
      rw [Rl.toBls t e]; rfl
    | _ => cases e
theorem Rl.toStrs : ∀ {ds : List D} {vs : List V} {ns : List PySem.Str}, Rl g H N ds vs → allStr ds = some ns → vs = ns.map V.str
  | _, _, _, .nil, e => by cases e; rfl
  | _, _, ns, .cons (x := x) r t, e => by
    cases x with
    | str i =>
      simp only [allStr, Option.map_eq_some_iff] at e
      obtain ⟨ms, e, rfl⟩ := e
      cases r
      rw [Rl.toStrs t e]; rfl
    | _ => cases e
/-! ### keys -/
theorem keyV {d : D} {v : V} {k : Key} (r : Rv g H N d v) (e : keyD d = some k) : v = kV k := by
  cases r <;> first | (cases e; rfl) | cases e
theorem keysV : ∀ {ds : List D} {vs : List V} {ks : List Key}, Rl g H N ds vs → keyDs ds = some ks → vs = ks.map kV
  | _, _, _, .nil, e => by cases e; rfl
  | _, _, ks, .cons (x := x) (xs := xs) r t, e => by
    simp only [keyDs] at e
    cases h1 : keyD x with
    | none => rw [h1] at e; simp at e
    | some k =>
      cases h2 : keyDs xs with
      | none => rw [h1, h2] at e; simp at e
      | some ks' =>
        rw [h1, h2] at e; cases e
        rw [keyV r h1, keysV t h2]; rfl
theorem keyR (k : Key) : Rv g H N (dKey k) (kV k) := by
  cases k with
  | inl i => exact .int i
  | inr s => exact .str s
theorem keysR : ∀ ks : List Key, Rl g H N (ks.map dKey) (ks.map kV)
  | [] => .nil
  | k :: ks => .cons (keyR k) (keysR ks)
section
variable {κ : Type} [DecidableEq κ]
theorem look_val : ∀ {kvs : List (κ × V)} {xs : List D} {q : κ}, Rl g H N xs (kvs.map (·.2)) → match look (kvs.map (·.1)) xs q with
    | some d => ∃ v, valV kvs q = some v ∧ Rv g H N d v
    | none => valV kvs q = none
  | [], _, q, .nil => rfl
  | (k, v) :: kvs, _, q, .cons (x := x) (xs := xs) r t => by
    show match (if k = q then some x else look (kvs.map (·.1)) xs q) with
      | some d => ∃ v', valV ((k, v) :: kvs) q = some v' ∧ Rv g H N d v'
      | none => valV ((k, v) :: kvs) q = none
    by_cases h : k = q
    · rw [if_pos h]
      exact ⟨v, valV_pos (p := (k, v)) h, r⟩
    · rw [if_neg h, valV_neg (p := (k, v)) h]
      exact look_val t
theorem look_put : ∀ {kvs : List (κ × V)} {xs : List D} {q : κ} {y : D} {u : V}, (kvs.map (·.1)).Nodup → Rl g H N xs (kvs.map (·.2)) → Rv g H N y u →
    (putK kvs q u).map (·.1) = (put (kvs.map (·.1)) xs q y).1 ∧ Rl g H N (put (kvs.map (·.1)) xs q y).2 ((putK kvs q u).map (·.2)) := by
  intro kvs
  induction kvs with
  | nil =>
    intro xs q y u _ r ry
    cases r
    exact ⟨rfl, .cons ry .nil⟩
  | cons p kvs ih =>
    intro xs q y u nd r ry
    obtain ⟨k, v⟩ := p
    cases r with
    | cons r t =>
      rename_i x xs
      have nd' := (List.nodup_cons.mp nd).2
      have hn := (List.nodup_cons.mp nd).1
      by_cases h : k = q
      · subst h
        have e1 : putK ((k, v) :: kvs) k u = (k, u) :: kvs := by
          unfold putK
          rw [if_pos (by simp)]
          rw [List.map_cons, if_pos rfl]
          congr 1
          refine (List.map_congr_left fun z hz => ?_).trans (List.map_id _)
          refine if_neg fun e => hn ?_
          exact List.mem_map.mpr ⟨z, hz, e⟩
        rw [e1]
        show _ = (if k = k then (k :: kvs.map (·.1), y :: xs) else _).1 ∧ Rl g H N (if k = k then (k :: kvs.map (·.1), y :: xs) else _).2 _
        rw [if_pos rfl]
        exact ⟨rfl, .cons ry t⟩
      · have e1 : putK ((k, v) :: kvs) q u = (k, v) :: putK kvs q u := by
          unfold putK
          by_cases c : (kvs.any fun kv => decide (kv.1 = q)) = true
          · rw [if_pos c, if_pos (by simp only [List.any_cons, c, Bool.or_true]), List.map_cons, if_neg h]
          · rw [if_neg c, if_neg (by simp only [List.any_cons, c, decide_eq_false h]; simp), List.cons_append]
        obtain ⟨i1, i2⟩ := ih nd' t ry (q := q)
        rw [e1]
        show _ = (if k = q then (k :: kvs.map (·.1), y :: xs) else ((k :: (put (kvs.map (·.1)) xs q y).1), (x :: (put (kvs.map (·.1)) xs q y).2))).1 ∧ Rl g H N (if k = q then (k :: kvs.map (·.1), y :: xs) else ((k :: (put (kvs.map (·.1)) xs q y).1), (x :: (put (kvs.map (·.1)) xs q y).2))).2 _
        rw [if_neg h]
        exact ⟨congrArg (k :: ·) i1, .cons r i2⟩
end

theorem keys_put {κ : Type} [DecidableEq κ] {kvs : List (κ × V)} {q : κ} {u : V} (nd : (kvs.map (·.1)).Nodup) : ((putK kvs q u).map (·.1)).Nodup := by
  unfold putK
  by_cases c : (kvs.any fun kv => decide (kv.1 = q)) = true
  · rw [if_pos c, List.map_map]
    have e : ((fun x : κ × V => x.1) ∘ fun kv : κ × V => if kv.1 = q then (kv.1, u) else kv) = fun x => x.1 := by
      funext kv
      show (if kv.1 = q then (kv.1, u) else kv).1 = kv.1
      by_cases h : kv.1 = q
      · rw [if_pos h]
      · rw [if_neg h]
    rw [e]; exact nd
  · rw [if_neg c, List.map_append]
    refine List.nodup_append.mpr ⟨nd, by simp, fun x hx y hy => ?_⟩
    have ey : y = q := by simpa using hy
    subst ey
    rintro rfl
    refine c (List.any_eq_true.mpr ?_)
    obtain ⟨z, hz, e⟩ := List.mem_map.mp hx
    exact ⟨z, hz, by simp [e]⟩
/-! ### cells -/
/-- what stands at a, perhaps locked -/
def At (L : List Addr) (H : Hp) (a : Addr) (u : HO) : Prop := H a = some u ∨ (a ∈ L ∧ ∃ od, H a = some (.frz od u))
theorem At.rd {a : Addr} {u : HO} (h : At L H a u) : Rd H a u := by
  rcases h with h | ⟨_, o, h⟩
  · exact .inl h
  · exact .inr ⟨o, h⟩
theorem At.exact {a : Addr} {u : HO} (h : At [] H a u) : H a = some u := by
  rcases h with h | ⟨h, _⟩
  · exact h
  · cases h
inductive Cont (g : Glo) (L : List Addr) (H : Hp) (N : List Addr) : Addr → D → Prop
  | lst {a : Addr} {vs : List V} {xs : List D} : H a = some (.lst vs) → Rl g H N xs vs → Cont g L H N a (.lst xs)
  | dK {a : Addr} {kvs : List (Key × V)} {ks : List Key} {xs : List D} : At L H a (.dK kvs) → kvs.map (·.1) = ks → ks.Nodup → Rl g H N xs (kvs.map (·.2)) → Cont g L H N a (.dK ks xs)
  | dT {a : Addr} {kvs : List (List Key × V)} {ks : List (List Key)} {xs : List D} : At L H a (.dT kvs) → kvs.map (·.1) = ks → ks.Nodup → Rl g H N xs (kvs.map (·.2)) → Cont g L H N a (.dT ks xs)
inductive Fl (g : Glo) (L : List Addr) (H : Hp) (N : List Addr) : List Fd → List D → List V → List (Fd × Addr) → Prop
  | nil : Fl g L H N [] [] [] []
  | val {k : Fd} {ks : List Fd} {d : D} {ds : List D} {v : V} {vs : List V} {ow : List (Fd × Addr)} : owned k = false → Rv g H N d v → Fl g L H N ks ds vs ow → Fl g L H N (k :: ks) (d :: ds) (v :: vs) ow
  | own {k : Fd} {ks : List Fd} {d : D} {ds : List D} {q : Addr} {vs : List V} {ow : List (Fd × Addr)} : owned k = true → Cont g L H N q d → Fl g L H N ks ds vs ow → Fl g L H N (k :: ks) (d :: ds) (.ref q :: vs) ((k, q) :: ow)
inductive CellR (g : Glo) (L : List Addr) (H : Hp) (N : List Addr) : CA → D → Prop
  | c {a : Addr} {d : D} : Cont g L H N a d → CellR g L H N ⟨a, []⟩ d
  | ins {a dx : Addr} {c : Nat} {fvs : List (PySem.Str × V)} {ks : List Fd} {xs : List D} {vs : List V} {ow : List (Fd × Addr)} : g.has c = true → H a = some (.ins (g.cA c) dx fvs) → fvs.map (·.1) = ks.map Fd.nm → fvs.map (·.2) = vs → Fl g L H N ks xs vs ow → ks.Nodup →
      CellR g L H N ⟨a, ow⟩ (.ins c ks xs)
structure MR (g : Glo) (cs : List CA) (B L : List Addr) (H : Hp) (M : Mem) : Prop where
  len : cs.length = M.length
  nd : (av cs).Nodup
  at_ : ∀ (i : Nat) (ca : CA) (d : D), cs[i]? = some ca → M[i]? = some d → CellR g L H (NV cs B) ca d
  bt : ∀ b ∈ B, ∃ vs, H b = some (.lst vs)
  dj : ∀ b ∈ B, b ∉ av cs
inductive RW (g : Glo) (cs : List CA) (H : Hp) (N : List Addr) : W → V → Prop
  | v {d : D} {v : V} : Rv g H N d v → RW g cs H N (.v d) v
  | c {i : Nat} {ca : CA} : cs[i]? = some ca → RW g cs H N (.c i) (.ref ca.a)
  | f {i : Nat} {k : Fd} {ca : CA} {q : Addr} : cs[i]? = some ca → (k, q) ∈ ca.own → RW g cs H N (.f i k) (.ref q)
  | n {a : Addr} {vs : List V} {xs : List D} : H a = some (.lst vs) → a ∉ N → Rl g H N xs vs → RW g cs H N (.n xs) (.ref a)
structure ER (g : Glo) (cs : List CA) (H : Hp) (N : List Addr) (e : Env) (σ : L2.St) : Prop where
  len : e.length = σ.length
  at_ : ∀ (i : Nat) (w : W), e[i]? = some (some w) → ∃ v, σ[i]? = some (some v) ∧ RW g cs H N w v
/-- no cell, or locked: it stays -/
def Ext (cs : List CA) (L : List Addr) (H H' : Hp) : Prop := ∀ a o, H a = some o → (a ∉ av cs ∨ a ∈ L) → H' a = some o
theorem Ext.refl : Ext cs L H H := fun _ _ h _ => h
theorem Ext.trans (a : Ext cs L H H1) (b : Ext cs L H1 H2) : Ext cs L H H2 := fun x o h n => b x o (a x o h n) n
theorem not_av {a : Addr} (h : a ∉ NV cs B) : a ∉ av cs := fun z => h (List.mem_append_left _ z)
theorem Ext.keep (e : Ext cs L H H') : Keep H (NV cs B) H' (NV cs B) := ⟨fun a o h n => e a o h (.inl (not_av n)), fun _ _ _ n => n⟩
theorem Ext.upd {p : Addr} {o : HO} (h : H p = none) : Ext cs L H (L2.upd H p o) := fun a u ha _ => by rw [upd_ne (ne_of_none ha h)]; exact ha
/-- beside: what the cells read too -/
structure Big (cs : List CA) (B : List Addr) (H : Hp) (H' : Hp) (B' : List Addr) : Prop where
  keep : ∀ a o, H a = some o → H' a = some o
  sub : ∀ a o, H a = some o → a ∉ B → a ∉ B'
theorem Big.k (b : Big cs B H H' N) : Keep H (NV cs B) H' (NV cs N) := ⟨fun a o h _ => b.keep a o h, fun a o h n z => by
  rcases List.mem_append.mp z with z | z
  · exact n (List.mem_append_left _ z)
  · exact b.sub a o h (fun q => n (List.mem_append_right _ q)) z⟩
theorem Cont.keep {a : Addr} {d : D} (k : Keep H N H' N') (ka : ∀ o, H a = some o → H' a = some o) (h : Cont g L H N a d) : Cont g L H' N' a d := by
  have ht : ∀ {u : HO}, At L H a u → At L H' a u := fun h => by
    rcases h with h | ⟨l, o, h⟩
    · exact .inl (ka _ h)
    · exact .inr ⟨l, o, ka _ h⟩
  cases h with
  | lst h r => exact .lst (ka _ h) (Rl.keep k r)
  | dK h e n r => exact .dK (ht h) e n (Rl.keep k r)
  | dT h e n r => exact .dT (ht h) e n (Rl.keep k r)
theorem Fl.keep (k : Keep H N H' N') : ∀ {ks : List Fd} {ds : List D} {vs : List V} {ow : List (Fd × Addr)}, (∀ p ∈ ow, ∀ o, H p.2 = some o → H' p.2 = some o) → Fl g L H N ks ds vs ow → Fl g L H' N' ks ds vs ow
  | _, _, _, _, _, .nil => .nil
  | _, _, _, _, z, .val e r t => .val e (Rv.keep k r) (Fl.keep k z t)
  | _, _, _, _, z, .own e r t => .own e (Cont.keep k (z _ List.mem_cons_self) r) (Fl.keep k (fun p hp => z p (List.mem_cons_of_mem _ hp)) t)
theorem CellR.keep {ca : CA} {d : D} (k : Keep H N H' N') (ka : ∀ a ∈ ca.all, ∀ o, H a = some o → H' a = some o) (h : CellR g L H N ca d) : CellR g L H' N' ca d := by
  cases h with
  | c h => exact .c (h.keep k (ka _ List.mem_cons_self))
  | ins hc h e e2 f nd => exact .ins hc (ka _ List.mem_cons_self _ h) e e2 (f.keep k fun p hp => ka _ (List.mem_cons_of_mem _ (List.mem_map.mpr ⟨p, hp, rfl⟩))) nd
theorem MR.big {M : Mem} (b : Big cs B H H' N) (bt : ∀ b ∈ N, ∃ vs, H' b = some (.lst vs)) (dj : ∀ b ∈ N, b ∉ av cs) (m : MR g cs B L H M) : MR g cs N L H' M :=
  ⟨m.len, m.nd, fun i ca d h1 h2 => (m.at_ i ca d h1 h2).keep b.k fun a _ o h => b.keep a o h, bt, dj⟩
theorem MR.fresh {M : Mem} {p : Addr} {o : HO} (h : H p = none) (m : MR g cs B L H M) : MR g cs B L (upd H p o) M :=
  m.big ⟨fun a u ha => by rw [upd_ne (ne_of_none ha h)]; exact ha, fun _ _ _ n => n⟩ (fun b hb => let ⟨u, hu⟩ := m.bt b hb; ⟨u, by rw [upd_ne (ne_of_none hu h)]; exact hu⟩) m.dj
theorem RW.keep {w : W} {v : V} (k : Keep H N H' N') (h : RW g cs H N w v) : RW g cs H' N' w v := by
  cases h with
  | v r => exact .v (Rv.keep k r)
  | c h => exact .c h
  | f h q => exact .f h q
  | n h n r => exact .n (k.keep _ _ h n) (k.sub _ _ h n) (Rl.keep k r)
theorem ER.keep {e : Env} {σ : L2.St} (k : Keep H N H' N') (h : ER g cs H N e σ) : ER g cs H' N' e σ :=
  ⟨h.len, fun i w hw => let ⟨v, h1, h2⟩ := h.at_ i w hw; ⟨v, h1, h2.keep k⟩⟩
theorem Big.fresh {p : Addr} {o : HO} (h : H p = none) : Big cs B H (upd H p o) B := ⟨fun a u ha => by rw [upd_ne (ne_of_none ha h)]; exact ha, fun _ _ _ n => n⟩
theorem Big.freshB {p : Addr} {o : HO} (h : H p = none) : Big cs B H (upd H p o) (p :: B) := ⟨fun a u ha => by rw [upd_ne (ne_of_none ha h)]; exact ha, fun a u ha n z => by
  rcases List.mem_cons.mp z with z | z
  · exact ne_of_none ha h z
  · exact n z⟩
/-- what a word holds, read -/
inductive Top (g : Glo) (H : Hp) (N : List Addr) : D → V → Prop
  | v {d : D} {v : V} : Rv g H N d v → Top g H N d v
  | lst {a : Addr} {vs : List V} {xs : List D} : H a = some (.lst vs) → Rl g H N xs vs → Top g H N (.lst xs) (.ref a)
  | dK {a : Addr} {kvs : List (Key × V)} {ks : List Key} {xs : List D} : Rd H a (.dK kvs) → kvs.map (·.1) = ks → Rl g H N xs (kvs.map (·.2)) → Top g H N (.dK ks xs) (.ref a)
  | dT {a : Addr} {kvs : List (List Key × V)} {ks : List (List Key)} {xs : List D} : Rd H a (.dT kvs) → kvs.map (·.1) = ks → Rl g H N xs (kvs.map (·.2)) → Top g H N (.dT ks xs) (.ref a)
  | ins {a dx : Addr} {c : Nat} {fvs : List (PySem.Str × V)} {ks : List Fd} {xs : List D} : H a = some (.ins (g.cA c) dx fvs) → fvs.map (·.1) = ks.map Fd.nm → Top g H N (.ins c ks xs) (.ref a)
theorem Cont.top {a : Addr} {d : D} (h : Cont g L H N a d) : Top g H N d (.ref a) := by
  cases h with
  | lst h r => exact .lst h r
  | dK h e n r => exact .dK h.rd e r
  | dT h e n r => exact .dT h.rd e r
theorem Fl.mem_own {k : Fd} {q : Addr} : ∀ {ks : List Fd} {ds : List D} {vs : List V} {ow : List (Fd × Addr)}, Fl g L H N ks ds vs ow → (k, q) ∈ ow → k ∈ ks
  | _, _, _, _, .nil, h => by cases h
  | _, _, _, _, .val e r t, h => List.mem_cons_of_mem _ (Fl.mem_own t h)
  | _, _, _, _, .own e r t, h => by
    rcases List.mem_cons.mp h with h | h
    · cases h; exact List.mem_cons_self
    · exact List.mem_cons_of_mem _ (Fl.mem_own t h)
theorem Fl.look {k : Fd} {q : Addr} {d : D} : ∀ {ks : List Fd} {ds : List D} {vs : List V} {ow : List (Fd × Addr)}, Fl g L H N ks ds vs ow → ks.Nodup → (k, q) ∈ ow → Bf.look ks ds k = some d → Cont g L H N q d
  | _, _, _, _, .nil, _, h, _ => by cases h
  | _, _, _, _, .val (k := k') e r t, nd, h, hl => by
    have hk : ¬ k' = k := fun z => by
      subst z
      exact (List.nodup_cons.mp nd).1 (Fl.mem_own t h)
    simp only [Bf.look, if_neg hk] at hl
    exact Fl.look t (List.nodup_cons.mp nd).2 h hl
  | _, _, _, _, .own (k := k') (q := q') e r t, nd, h, hl => by
    by_cases hk : k' = k
    · subst hk
      simp only [Bf.look, if_true] at hl
      cases hl
      rcases List.mem_cons.mp h with h | h
      · cases h; exact r
      · exact absurd (Fl.mem_own t h) (List.nodup_cons.mp nd).1
    · simp only [Bf.look, if_neg hk] at hl
      rcases List.mem_cons.mp h with h | h
      · cases h; exact absurd rfl hk
      · exact Fl.look t (List.nodup_cons.mp nd).2 h hl
theorem RW.top {M : Mem} {w : W} {v : V} {d : D} (m : MR g cs B L H M) (h : RW g cs H (NV cs B) w v) (e : w.get M = some d) : Top g H (NV cs B) d v := by
  cases h with
  | v r => cases e; exact .v r
  | n h n r => cases e; exact .v (.lst h n r)
  | c h =>
    have q := m.at_ _ _ _ h e
    cases q with
    | c q => exact q.top
    | ins hc h1 e1 e2 f nd => exact .ins h1 e1
  | f h hq =>
    rename_i i k ca q
    simp only [W.get] at e
    cases hM : M[i]? with
    | none => rw [hM] at e; cases e
    | some x =>
      rw [hM] at e
      have z := m.at_ _ _ _ h hM
      cases z with
      | c z => cases hq
      | ins hc h1 e1 e2 f nd => exact (Fl.look f nd hq e).top
end
end Bf

set_option Elab.async false
set_option linter.all false
/-! What the evaluator says of an expression, a test, arguments, a statement is what the model does. -/
namespace Bf
open PySem L2
/-! ### the weakest wishes -/
section
variable {X : Cx} {e : Expr} {σ : L2.St} {H : Hp}
def SemE (X : Cx) (e : Expr) : TE := fun σ H Q => ∀ (pins : List (Addr × Obj)) (s : Shared), Inv X pins σ H s → wpAny (model X.prog X.w) X.A (eval e X.env) (EP X pins σ Q) X.xe s
def SemT (X : Cx) (e : Expr) : TT := fun σ H Q => ∀ (pins : List (Addr × Obj)) (s : Shared), Inv X pins σ H s → wpAny (model X.prog X.w) X.A (isTrue e X.env (eval e X.env)) (TP X pins σ Q) X.xe s
def SemA (X : Cx) (es : List Expr) : TA := fun σ H Q => ∀ (pos : Pos) (pins : List (Addr × Obj)) (s : Shared), Inv X pins σ H s → wpAny (model X.prog X.w) X.A (spliced (backTo pos (starEach es X.env))) (AP X pins σ Q) X.xe s
def SemS (X : Cx) (st : Stmt) : TS := fun D σ H => ∀ (pins : List (Addr × Obj)) (s : Shared), Inv X pins σ H s → wpAny (model X.prog X.w) X.A (exec st X.env) (SP X pins D) X.xe s
def SemSs (X : Cx) (st : List Stmt) : TS := fun D σ H => ∀ (pins : List (Addr × Obj)) (s : Shared), Inv X pins σ H s → wpAny (model X.prog X.w) X.A (execs st X.env) (SP X pins D) X.xe s
theorem pe_sem : PE X e (SemE X e) := ⟨fun pins s σ H Q I h => h pins s I⟩
theorem pt_sem : PT X e (SemT X e) := ⟨fun pins s σ H Q I h => h pins s I⟩
theorem pa_sem {es : List Expr} : PA X es (SemA X es) := ⟨fun pos pins s σ H Q I h => h pos pins s I⟩
theorem ps_sem {st : Stmt} : PS X st (SemS X st) := ⟨fun pins s σ H Q I h => h pins s I⟩
theorem pss_sem {st : List Stmt} : PSs X st (SemSs X st) := ⟨fun pins s σ H Q I h => h pins s I⟩
theorem SemE.of {t : TE} {Q : VK} (h : PE X e t) (q : t σ H Q) : SemE X e σ H Q := fun pins s I => h.run pins s σ H Q I q
theorem SemT.of {t : TT} {Q : Bool → Hp → Prop} (h : PT X e t) (q : t σ H Q) : SemT X e σ H Q := fun pins s I => h.run pins s σ H Q I q
theorem SemA.of {t : TA} {es : List Expr} {Q : List V → Hp → Prop} (h : PA X es t) (q : t σ H Q) : SemA X es σ H Q := fun pos pins s I => h.run pos pins s σ H Q I q
theorem SemS.of {t : TS} {st : Stmt} {D : Ends} (h : PS X st t) (q : t D σ H) : SemS X st D σ H := fun pins s I => h.run pins s σ H D I q
theorem SemSs.of {t : TS} {st : List Stmt} {D : Ends} (h : PSs X st t) (q : t D σ H) : SemSs X st D σ H := fun pins s I => h.run pins s σ H D I q
theorem SemE.mono {Q Q' : VK} (h : SemE X e σ H Q) (q : ∀ v H', Q v H' → Q' v H') : SemE X e σ H Q' := fun pins s I => thn (h pins s I) fun u s1 ⟨v, H1, I1, r, z⟩ => ⟨v, H1, I1, r, q v H1 z⟩
theorem SemT.mono {Q Q' : Bool → Hp → Prop} (h : SemT X e σ H Q) (q : ∀ v H', Q v H' → Q' v H') : SemT X e σ H Q' := fun pins s I => thn (h pins s I) fun u s1 ⟨H1, I1, z⟩ => ⟨H1, I1, q u H1 z⟩
theorem SemA.mono {es : List Expr} {Q Q' : List V → Hp → Prop} (h : SemA X es σ H Q) (q : ∀ v H', Q v H' → Q' v H') : SemA X es σ H Q' := fun pos pins s I => thn (h pos pins s I) fun u s1 ⟨v, H1, I1, r, z⟩ => ⟨v, H1, I1, r, q v H1 z⟩
end
/-! ### what is known behind -/
/-- an exception's own dict: none, or the one field -/
def ExO (g : Glo) (H : Hp) (N : List Addr) (f : D) (dd : Option Addr) : Prop := (f = .non ∧ dd = none) ∨ ∃ (d : Addr) (nm : PySem.Str) (v : V), dd = some d ∧ H d = some (.xd [(nm, v)]) ∧ Rv g H N f v
section
variable (g : Glo) (cs : List CA) (B L : List Addr) (W : WX) (σ : L2.St)
/-- a word as it comes back: a new list is nobody else's -/
inductive RS (H H' : Hp) (M' : Mem) : Bf.W → V → Prop
  | v {d : D} {v : V} : Rv g H' (NV cs B) d v → RS H H' M' (.v d) v
  | c {i : Nat} {ca : CA} : cs[i]? = some ca → RS H H' M' (.c i) (.ref ca.a)
  | f {i : Nat} {k : Fd} {ca : CA} {q : Addr} : cs[i]? = some ca → (k, q) ∈ ca.own → RS H H' M' (.f i k) (.ref q)
  | n {p : Addr} {vs : List V} {xs : List D} : H p = none → p ∉ av cs → H' p = some (.lst vs) → MR g cs (p :: B) L H' M' → Rl g H' (NV cs (p :: B)) xs vs → RS H H' M' (.n xs) (.ref p)
inductive RSs (H' : Hp) : List Bf.W → List V → Prop
  | nil : RSs H' [] []
  | cons {w : Bf.W} {v : V} {ws : List Bf.W} {vs : List V} : RW g cs H' (NV cs B) w v → RSs H' ws vs → RSs H' (w :: ws) (v :: vs)
def Post {α β : Type} (rel : Hp → Hp → Mem → α → β → Prop) (H : Hp) (r : Rs α) (Q : β → Hp → Prop) : Prop := match r with
  | .ok a M' => ∀ b H', Ext cs L H H' → MR g cs B L H' M' → rel H H' M' a b → Q b H'
  | .ex c f M' => ∀ dd H', Ext cs L H H' → MR g cs B L H' M' → ExO g H' (NV cs B) f dd → W (.ref (g.cA c)) dd σ H'
  | .no => False
abbrev relA : Hp → Hp → Mem → List Bf.W → List V → Prop := fun _ H' _ ws vs => RSs g cs B H' ws vs
/-- a test's answer -/
abbrev relT : Hp → Hp → Mem → Bf.W → Bool → Prop := fun _ _ _ w k => w = .v (.bl k)
abbrev relB : Hp → Hp → Mem → Bool → Bool → Prop := fun _ _ _ w k => w = k
end
section
variable {g : Glo} {cs : List CA} {B L : List Addr} {W : WX} {σ : L2.St} {H H1 H' : Hp}
theorem av_tracked {M : Mem} (m : MR g cs B L H M) {p : Addr} (h : p ∈ av cs) : ∃ o, H p = some o := by
  obtain ⟨ca, hca, hp⟩ := List.mem_flatMap.mp h
  obtain ⟨i, hi⟩ := List.mem_iff_getElem?.mp hca
  obtain ⟨d, hd⟩ : ∃ d, M[i]? = some d := by
    have hl : i < cs.length := (List.getElem?_eq_some_iff.mp hi).1
    rw [m.len] at hl
    exact ⟨M[i], List.getElem?_eq_getElem hl⟩
  have rdO : ∀ {a : Addr} {u : HO}, Rd H a u → ∃ o, H a = some o := fun h => by
    rcases h with h | ⟨o, h⟩
    · exact ⟨_, h⟩
    · exact ⟨_, h⟩
  have cO : ∀ {a : Addr} {d : D}, Cont g L H (NV cs B) a d → ∃ o, H a = some o := fun h => by
    cases h with
    | lst h r => exact ⟨_, h⟩
    | dK h e n r => exact rdO h.rd
    | dT h e n r => exact rdO h.rd
  have fO : ∀ {ks : List Fd} {ds : List D} {vs : List V} {ow : List (Fd × Addr)}, Fl g L H (NV cs B) ks ds vs ow → ∀ q ∈ ow.map (·.2), ∃ o, H q = some o := by
    intro ks ds vs ow h
    induction h with
    | nil => intro q hq; cases hq
    | val e r t ih => exact ih
    | own e r t ih =>
      intro q hq
      rcases List.mem_cons.mp hq with rfl | hq
      · exact cO r
      · exact ih q hq
  cases m.at_ i ca d hi hd with
  | c h =>
    rcases List.mem_cons.mp hp with e | hp
    · rw [e]; exact cO h
    · cases hp
  | ins hc h e e2 f nd =>
    rcases List.mem_cons.mp hp with e | hp
    · rw [e]; exact ⟨_, h⟩
    · exact fO f p hp
theorem tup_av {M : Mem} (m : MR g cs B L H M) {p : Addr} {xs : List V} (h : H p = some (.tup xs)) : p ∉ av cs := fun z => by
  obtain ⟨ca, hca, hp⟩ := List.mem_flatMap.mp z
  obtain ⟨i, hi⟩ := List.mem_iff_getElem?.mp hca
  obtain ⟨d, hd⟩ : ∃ d, M[i]? = some d := by
    have hl : i < cs.length := (List.getElem?_eq_some_iff.mp hi).1
    rw [m.len] at hl
    exact ⟨M[i], List.getElem?_eq_getElem hl⟩
  have cO : ∀ {d : D}, Cont g L H (NV cs B) p d → False := fun q => by
    cases q with
    | lst q r => rw [h] at q; cases q
    | dK q e n r => rcases q with q | ⟨_, _, q⟩ <;> (rw [h] at q; cases q)
    | dT q e n r => rcases q with q | ⟨_, _, q⟩ <;> (rw [h] at q; cases q)
  have fO : ∀ {ks : List Fd} {ds : List D} {vs : List V} {ow : List (Fd × Addr)}, Fl g L H (NV cs B) ks ds vs ow → ∀ q ∈ ow.map (·.2), p = q → False := by
    intro ks ds vs ow h
    induction h with
    | nil => intro q hq; cases hq
    | val e r t ih => exact ih
    | own e r t ih =>
      intro q hq e
      rcases List.mem_cons.mp hq with rfl | hq
      · subst e; exact cO r
      · exact ih q hq e
  cases m.at_ i ca d hi hd with
  | c q =>
    rcases List.mem_cons.mp hp with e | hp
    · subst e; exact cO q
    · cases hp
  | ins hc q e e2 f nd =>
    rcases List.mem_cons.mp hp with e | hp
    · subst e; rw [h] at q; cases q
    · exact fO f p hp rfl
theorem tup_NV {M : Mem} (m : MR g cs B L H M) {p : Addr} {xs : List V} (h : H p = some (.tup xs)) : p ∉ NV cs B := fun z => by
  rcases List.mem_append.mp z with z | z
  · exact tup_av m h z
  · obtain ⟨vs, q⟩ := m.bt p z
    rw [h] at q; cases q
theorem none_back {M : Mem} (m : MR g cs B L H1 M) (e : Ext cs L H H1) {p : Addr} (h : H1 p = none) : H p = none := by
  cases q : H p with
  | none => rfl
  | some o =>
    by_cases hp : p ∈ av cs
    · obtain ⟨u, hu⟩ := av_tracked m hp
      rw [h] at hu; cases hu
    · rw [e p o q (.inl hp)] at h; cases h
theorem RS.back {M M' : Mem} {w : Bf.W} {v : V} (m : MR g cs B L H1 M) (e : Ext cs L H H1) (h : RS g cs B L H1 H' M' w v) : RS g cs B L H H' M' w v := by
  cases h with
  | v h => exact .v h
  | c h => exact .c h
  | f h q => exact .f h q
  | n h a b c d => exact .n (none_back m e h) a b c d
/-- the relation may begin earlier -/
structure Backs {α β : Type} (g : Glo) (cs : List CA) (B L : List Addr) (rel : Hp → Hp → Mem → α → β → Prop) : Prop where
  b : ∀ (H H1 H' : Hp) (M M' : Mem) (a : α) (b : β), MR g cs B L H1 M → Ext cs L H H1 → rel H1 H' M' a b → rel H H' M' a b
theorem backs_S : Backs g cs B L (RS g cs B L) := ⟨fun _ _ _ _ _ _ _ m e h => h.back m e⟩
theorem backs_A : Backs g cs B L (relA g cs B) := ⟨fun _ _ _ _ _ _ _ m e h => h⟩
theorem backs_B : Backs g cs B L relB := ⟨fun _ _ _ _ _ _ _ _ _ h => h⟩
section
variable {α β γ δ : Type} {rel : Hp → Hp → Mem → α → β → Prop} {rel' : Hp → Hp → Mem → γ → δ → Prop}
theorem Post.later {M : Mem} {r : Rs α} {Q : β → Hp → Prop} (bk : Backs g cs B L rel) (m : MR g cs B L H1 M) (e : Ext cs L H H1) (h : Post g cs B L W σ rel H r Q) : Post g cs B L W σ rel H1 r Q := by
  cases r with
  | ok a M' => exact fun b H' e1 m1 r1 => h b H' (e.trans e1) m1 (bk.b _ _ _ _ _ _ _ m e r1)
  | ex c f M' => exact fun dd H' e1 m1 x => h dd H' (e.trans e1) m1 x
  | no => exact h
theorem Post.bind {r : Rs α} {f : α → Mem → Rs γ} {Q : δ → Hp → Prop} (bk : Backs g cs B L rel') (h : Post g cs B L W σ rel' H (r.bind f) Q) :
    Post g cs B L W σ rel H r (fun b H1 => ∃ a M1, Ext cs L H H1 ∧ MR g cs B L H1 M1 ∧ rel H H1 M1 a b ∧ Post g cs B L W σ rel' H1 (f a M1) Q) := by
  cases r with
  | ok a M' => exact fun b H' e m r => ⟨a, M', e, m, r, Post.later bk m e h⟩
  | ex c f M' => exact h
  | no => exact h
theorem Post.mono {r : Rs α} {Q Q' : β → Hp → Prop} (h : Post g cs B L W σ rel H r Q) (q : ∀ b H', Q b H' → Q' b H') : Post g cs B L W σ rel H r Q' := by
  cases r with
  | ok a M' => exact fun b H' e1 m1 r1 => q _ _ (h b H' e1 m1 r1)
  | ex c f M' => exact h
  | no => exact h
end
theorem not_NV {M : Mem} (m : MR g cs B L H M) {p : Addr} (h : H p = none) : p ∉ NV cs B := fun z => by
  rcases List.mem_append.mp z with z | z
  · obtain ⟨o, ho⟩ := av_tracked m z
    rw [h] at ho; cases ho
  · obtain ⟨o, ho⟩ := m.bt p z
    rw [h] at ho; cases ho
theorem MR.freshB {M : Mem} {p : Addr} {vs : List V} (h : H p = none) (m : MR g cs B L H M) : MR g cs (p :: B) L (upd H p (.lst vs)) M :=
  m.big ⟨fun a u ha => by rw [upd_ne (ne_of_none ha h)]; exact ha, fun a u ha n z => by
    rcases List.mem_cons.mp z with z | z
    · exact ne_of_none ha h z
    · exact n z⟩ (fun b hb => by
    rcases List.mem_cons.mp hb with e | hb
    · exact ⟨vs, by rw [e, upd_same]⟩
    · obtain ⟨u, hu⟩ := m.bt b hb
      exact ⟨u, by rw [upd_ne (ne_of_none hu h)]; exact hu⟩) fun b hb => by
    rcases List.mem_cons.mp hb with e | hb
    · rw [e]; exact not_av (not_NV m h)
    · exact m.dj b hb
theorem RS.rw {M M' : Mem} (m : MR g cs B L H M) {w : Bf.W} {v : V} (h : RS g cs B L H H' M' w v) : RW g cs H' (NV cs B) w v := by
  cases h with
  | v h => exact .v h
  | c h => exact .c h
  | f h q => exact .f h q
  | n h a b c d =>
    exact .n b (not_NV m h) (Rl.keep ⟨fun _ _ h _ => h, fun _ _ _ n z => n (List.mem_append.mpr ((List.mem_append.mp z).imp id (List.mem_cons_of_mem _)))⟩ d)
end
end Bf

set_option Elab.async false
set_option linter.all false
/-! Data as the library's plain data. -/
namespace Bf
open PySem L2
theorem toPys_cons {x : D} {xs : List D} {ps : List PyData} (h : toPys (x :: xs) = some ps) : ∃ p r, toPy x = some p ∧ toPys xs = some r ∧ ps = p :: r := by
  simp only [toPys] at h
  cases h1 : toPy x with
  | none => rw [h1] at h; cases h
  | some p =>
    cases h2 : toPys xs with
    | none => rw [h1, h2] at h; cases h
    | some r => rw [h1, h2] at h; cases h; exact ⟨p, r, rfl, rfl, rfl⟩
theorem fits_all : ∀ (n : Nat) (xs : List D), (∀ d, fits n d = true → ∃ p, toPy d = some p ∧ p.canLay0 = true ∧ p.depth ≤ n) → xs.all (fits n) = true → ∃ ps, toPys xs = some ps ∧ PyData.canLayAll0 ps = true ∧ PyData.depthAll ps ≤ n
  | n, [], _, _ => ⟨[], rfl, rfl, Nat.zero_le _⟩
  | n, x :: xs, ih, h => by
    rw [List.all_cons, Bool.and_eq_true] at h
    obtain ⟨p, e1, c1, d1⟩ := ih x h.1
    obtain ⟨ps, e2, c2, d2⟩ := fits_all n xs ih h.2
    refine ⟨p :: ps, by simp only [toPys, e1, e2], ?_, ?_⟩
    · show (p.canLay0 && PyData.canLayAll0 ps) = true
      rw [c1, c2]; rfl
    · exact Nat.max_le.mpr ⟨d1, d2⟩
theorem fits_py : ∀ (n : Nat) (d : D), fits n d = true → ∃ p, toPy d = some p ∧ p.canLay0 = true ∧ p.depth ≤ n
  | _, .non, _ => ⟨_, rfl, rfl, Nat.zero_le _⟩
  | _, .bl b, _ => ⟨_, rfl, rfl, Nat.zero_le _⟩
  | _, .int b, _ => ⟨_, rfl, rfl, Nat.zero_le _⟩
  | n, .str s, h => ⟨_, rfl, by cases n <;> exact h, Nat.zero_le _⟩
  | n + 1, .tup xs, h => by
    obtain ⟨ps, e, c, d⟩ := fits_all n xs (fits_py n) h
    exact ⟨.tuple ps, by simp only [toPy, e]; rfl, c, Nat.succ_le_succ d⟩
  | n + 1, .lst xs, h => by
    obtain ⟨ps, e, c, d⟩ := fits_all n xs (fits_py n) h
    exact ⟨.list ps, by simp only [toPy, e]; rfl, c, Nat.succ_le_succ d⟩
  | 0, .tup xs, h => by cases h
  | 0, .lst xs, h => by cases h
  | n, .dK _ _, h => by cases n <;> cases h
  | n, .dT _ _, h => by cases n <;> cases h
  | n, .ins _ _ _, h => by cases n <;> cases h
  | n, .scr _, h => by cases n <;> cases h
theorem fits_shaped {d : D} (h : fits 20 d = true) : ∃ p, toPy d = some p ∧ SeqAt.shaped p = true ∧ p.depth ≤ 20 := by
  obtain ⟨p, e, c, z⟩ := fits_py 20 d h
  exact ⟨p, e, by unfold SeqAt.shaped; rw [c, decide_eq_true (show p.depth ≤ 64 by omega)]; rfl, z⟩
mutual
theorem eqv_eqB : ∀ (a b : D) (p q : PyData), toPy a = some p → toPy b = some q → PyData.eqv p q = eqB a b
  | .non, b, p, q, h1, h2 => by cases h1; cases b <;> first | (cases h2; done) | (cases h2; rfl) | (simp only [toPy, Option.map_eq_some_iff] at h2; obtain ⟨_, _, rfl⟩ := h2; rfl)
  | .bl x, b, p, q, h1, h2 => by cases h1; cases b <;> first | (cases h2; done) | (cases h2; rfl) | (simp only [toPy, Option.map_eq_some_iff] at h2; obtain ⟨_, _, rfl⟩ := h2; rfl)
  | .int x, b, p, q, h1, h2 => by cases h1; cases b <;> first | (cases h2; done) | (cases h2; rfl) | (simp only [toPy, Option.map_eq_some_iff] at h2; obtain ⟨_, _, rfl⟩ := h2; rfl)
  | .str x, b, p, q, h1, h2 => by cases h1; cases b <;> first | (cases h2; done) | (cases h2; rfl) | (simp only [toPy, Option.map_eq_some_iff] at h2; obtain ⟨_, _, rfl⟩ := h2; rfl)
  | .tup xs, b, p, q, h1, h2 => by
    simp only [toPy, Option.map_eq_some_iff] at h1
    obtain ⟨ps, e1, rfl⟩ := h1
    cases b with
    | tup ys =>
      simp only [toPy, Option.map_eq_some_iff] at h2
      obtain ⟨qs, e2, rfl⟩ := h2
      exact eqvs_eqBs xs ys ps qs e1 e2
    | lst ys =>
      simp only [toPy, Option.map_eq_some_iff] at h2
      obtain ⟨qs, e2, rfl⟩ := h2
      rfl
    | _ => first | (cases h2; done) | (cases h2; rfl)
  | .lst xs, b, p, q, h1, h2 => by
    simp only [toPy, Option.map_eq_some_iff] at h1
    obtain ⟨ps, e1, rfl⟩ := h1
    cases b with
    | lst ys =>
      simp only [toPy, Option.map_eq_some_iff] at h2
      obtain ⟨qs, e2, rfl⟩ := h2
      exact eqvs_eqBs xs ys ps qs e1 e2
    | tup ys =>
      simp only [toPy, Option.map_eq_some_iff] at h2
      obtain ⟨qs, e2, rfl⟩ := h2
      rfl
    | _ => first | (cases h2; done) | (cases h2; rfl)
  | .dK _ _, _, _, _, h1, _ => by cases h1
  | .dT _ _, _, _, _, h1, _ => by cases h1
  | .ins _ _ _, _, _, _, h1, _ => by cases h1
  | .scr _, _, _, _, h1, _ => by cases h1
theorem eqvs_eqBs : ∀ (xs ys : List D) (ps qs : List PyData), toPys xs = some ps → toPys ys = some qs → PyData.eqvAll ps qs = eqBs xs ys
  | [], [], ps, qs, h1, h2 => by cases h1; cases h2; rfl
  | [], y :: ys, ps, qs, h1, h2 => by
    cases h1
    obtain ⟨p, r, _, _, rfl⟩ := toPys_cons h2
    rfl
  | x :: xs, [], ps, qs, h1, h2 => by
    cases h2
    obtain ⟨p, r, _, _, rfl⟩ := toPys_cons h1
    rfl
  | x :: xs, y :: ys, ps, qs, h1, h2 => by
    obtain ⟨p, r, a1, a2, rfl⟩ := toPys_cons h1
    obtain ⟨q, t, b1, b2, rfl⟩ := toPys_cons h2
    show (PyData.eqv p q && PyData.eqvAll r t) = (eqB x y && eqBs xs ys)
    rw [eqv_eqB x y p q a1 b1, eqvs_eqBs xs ys r t a2 b2]
end
section
variable {g : Glo} {H : Hp} {N : List Addr}
mutual
theorem Rv.dp : ∀ {d : D} {v : V} {p : PyData}, Rv g H N d v → toPy d = some p → Dp g.K H v p
  | _, _, _, .non, h => by cases h; exact .non
  | _, _, _, .bl b, h => by cases h; exact .bl b
  | _, _, _, .int b, h => by cases h; exact .int b
  | _, _, _, .str b, h => by cases h; exact .str b
  | _, _, _, .tup h n r, e => by
    simp only [toPy, Option.map_eq_some_iff] at e
    obtain ⟨ps, e, rfl⟩ := e
    exact .tup (SqT.of h) (Rl.dp r e)
  | _, _, _, .lst h n r, e => by
    simp only [toPy, Option.map_eq_some_iff] at e
    obtain ⟨ps, e, rfl⟩ := e
    exact .lst (SqL.of h) (Rl.dp r e)
  | _, _, _, .dK .., e => by cases e
  | _, _, _, .dT .., e => by cases e
  | _, _, _, .ins .., e => by cases e
  | _, _, _, .scr .., e => by cases e
  | _, _, _, .scrK .., e => by cases e
theorem Rl.dp : ∀ {ds : List D} {vs : List V} {ps : List PyData}, Rl g H N ds vs → toPys ds = some ps → DpAll g.K H vs ps
  | _, _, _, .nil, h => by cases h; exact .nil
  | _, _, _, .cons r t, h => by
    obtain ⟨p, q, e1, e2, rfl⟩ := toPys_cons h
    exact .cons (Rv.dp r e1) (Rl.dp t e2)
end
theorem Top.dp {d : D} {v : V} {p : PyData} (h : Top g H N d v) (e : toPy d = some p) : Dp g.K H v p := by
  cases h with
  | v r => exact r.dp e
  | lst h r =>
    simp only [toPy, Option.map_eq_some_iff] at e
    obtain ⟨ps, e, rfl⟩ := e
    exact .lst (SqL.of h) (Rl.dp r e)
  | dK h e2 r => cases e
  | dT h e2 r => cases e
  | ins h e2 => cases e
end
theorem any_eqv {x : D} {p : PyData} (hx : toPy x = some p) : ∀ {ys : List D} {qs : List PyData}, toPys ys = some qs → (qs.any fun z => PyData.eqv z p) = ys.any fun z => eqB z x
  | [], qs, h => by cases h; rfl
  | y :: ys, qs, h => by
    obtain ⟨q, r, e1, e2, rfl⟩ := toPys_cons h
    rw [List.any_cons, List.any_cons, eqv_eqB y x q p e1 hx, any_eqv hx e2]
end Bf

set_option Elab.async false
set_option linter.all false
set_option maxHeartbeats 1000000
/-! Operators on data. -/
namespace Bf
open PySem L2
def SemO (X : Cx) (f : Value → Value → Sem Value) : R2 := fun x y H Q => ∀ (pins : List (Addr × Obj)) (s : Shared) (σ : L2.St) (v u : Value), Inv X pins σ H s → RelV x v → RelV y u → wpAny (model X.prog X.w) X.A (f v u) (EP X pins σ Q) X.xe s
theorem op_sem {X : Cx} {f : Value → Value → Sem Value} : OpR X f (SemO X f) := fun pins s σ H x y v u Q I rx ry h => h pins s σ v u I rx ry
theorem SemO.of {X : Cx} {f : Value → Value → Sem Value} {r : R2} {x y : V} {H : Hp} {Q : VK} (h : OpR X f r) (q : r x y H Q) : SemO X f x y H Q := fun pins s σ v u I rx ry => h pins s σ H x y v u Q I rx ry q
def Grow (H H' : Hp) : Prop := H' = H ∨ ∃ p o, H p = none ∧ H' = upd H p o
theorem Grow.refl (H : Hp) : Grow H H := .inl rfl
theorem Grow.new {H : Hp} {p : Addr} {o : HO} (h : H p = none) : Grow H (upd H p o) := .inr ⟨p, o, h, rfl⟩
section
variable {g : Glo} {cs : List CA} {B L N : List Addr} {H H' : Hp} {M : Mem}
theorem Grow.ext (h : Grow H H') : Ext cs L H H' := by
  rcases h with rfl | ⟨p, o, hp, rfl⟩
  · exact Ext.refl
  · exact Ext.upd hp
theorem Grow.mr (h : Grow H H') (m : MR g cs B L H M) : MR g cs B L H' M := by
  rcases h with rfl | ⟨p, o, hp, rfl⟩
  · exact m
  · exact m.fresh hp
theorem keepN {p : Addr} {o : HO} (h : H p = none) : Keep H N (upd H p o) N := ⟨fun a u ha _ => by rw [upd_ne (ne_of_none ha h)]; exact ha, fun _ _ _ n => n⟩
/-- the operator's name in the text -/
inductive OpN where
  | b (o : Operator) | c (o : CmpOp)
  deriving DecidableEq
def O2.nm : O2 → OpN
  | .add => .b .Add | .sub => .b .Sub | .mul => .b .Mult | .fdiv => .b .FloorDiv | .mod => .b .Mod | .pow => .b .Pow
  | .eq => .c .Eq | .ne => .c .NotEq | .lt => .c .Lt | .le => .c .LtE | .gt => .c .Gt | .ge => .c .GtE | .isN => .c .Is | .notN => .c .IsNot | .inn => .c .In | .nin => .c .NotIn
def OpN.f : OpN → Value → Value → Sem Value
  | .b o => binaryOp o
  | .c o => compareOp o
theorem Top.int {i : Int} {v : V} (h : Top g H N (.int i) v) : v = .int i := by cases h with | v r => cases r; rfl
theorem Top.str {i : PySem.Str} {v : V} (h : Top g H N (.str i) v) : v = .str i := by cases h with | v r => cases r; rfl
theorem Top.bl {i : Bool} {v : V} (h : Top g H N (.bl i) v) : v = .bl i := by cases h with | v r => cases r; rfl
theorem Top.non {v : V} (h : Top g H N .non v) : v = .non := by cases h with | v r => cases r; rfl
theorem Top.lstE {xs : List D} {v : V} (h : Top g H N (.lst xs) v) : ∃ a vs, v = .ref a ∧ H a = some (.lst vs) ∧ Rl g H N xs vs := by
  cases h with
  | v r => cases r with | lst h n r => exact ⟨_, _, rfl, h, r⟩
  | lst h r => exact ⟨_, _, rfl, h, r⟩
theorem Top.tupE {xs : List D} {v : V} (h : Top g H N (.tup xs) v) : ∃ a vs, v = .ref a ∧ H a = some (.tup vs) ∧ a ∉ N ∧ Rl g H N xs vs := by
  cases h with
  | v r => cases r with | tup h n r => exact ⟨_, _, rfl, h, n, r⟩
theorem Top.dKE {ks : List Key} {xs : List D} {v : V} (h : Top g H N (.dK ks xs) v) : ∃ a kvs, v = .ref a ∧ Rd H a (.dK kvs) ∧ kvs.map (·.1) = ks ∧ Rl g H N xs (kvs.map (·.2)) := by
  cases h with
  | v r => cases r with | dK h n e e2 r => subst e2; exact ⟨_, _, rfl, h, e, r⟩
  | dK h e r => exact ⟨_, _, rfl, h, e, r⟩
theorem Top.dTE {ks : List (List Key)} {xs : List D} {v : V} (h : Top g H N (.dT ks xs) v) : ∃ a kvs, v = .ref a ∧ Rd H a (.dT kvs) ∧ kvs.map (·.1) = ks ∧ Rl g H N xs (kvs.map (·.2)) := by
  cases h with
  | v r => cases r with | dT h n e e2 r => subst e2; exact ⟨_, _, rfl, h, e, r⟩
  | dT h e r => exact ⟨_, _, rfl, h, e, r⟩
theorem Top.isNon {d : D} {v : V} (h : Top g H N d v) : decide (v = .non) = isNonD d := by
  cases h with
  | v r => cases r <;> first | rfl | exact decide_eq_false (fun z => by cases z)
  | _ => exact decide_eq_false (fun z => by cases z)
theorem dget_of {ks : List Key} {xs : List D} {y : V} {a : Addr} {d : D} {k : Key} {kvs : List (Key × V)} (h : Rd H a (.dK kvs)) (e : kvs.map (·.1) = ks) (r : Rl g H N xs (kvs.map (·.2))) (ry : Top g H N d y) (ek : keyD d = some k) :
    DGet H a y (valV kvs k) ∧ (match look ks xs k with | some d => ∃ v, valV kvs k = some v ∧ Rv g H N d v | none => valV kvs k = none) := by
  have ey : y = kV k := by
    cases d with
    | int i => cases ek; exact ry.int
    | str i => cases ek; exact ry.str
    | _ => cases ek
  subst ey; subst e
  exact ⟨.inl ⟨kvs, k, h, rfl, rfl⟩, look_val r⟩
theorem dgetT_of {ks : List (List Key)} {xs : List D} {y : V} {a : Addr} {ts : List D} {k : List Key} {kvs : List (List Key × V)} (h : Rd H a (.dT kvs)) (e : kvs.map (·.1) = ks) (r : Rl g H N xs (kvs.map (·.2))) (ry : Top g H N (.tup ts) y) (ek : keyDs ts = some k) :
    DGet H a y (valV kvs k) ∧ (match look ks xs k with | some d => ∃ v, valV kvs k = some v ∧ Rv g H N d v | none => valV kvs k = none) := by
  obtain ⟨b, vs, rfl, hb, _, rb⟩ := ry.tupE
  have ev := keysV rb ek
  subst e; subst ev
  exact ⟨.inr ⟨kvs, k, b, h, rfl, hb, rfl⟩, look_val r⟩
end
theorem op_in_dict {X : Cx} {a : Addr} {y : V} {o : Option V} {H : Hp} {Q : VK} (hu : X.A.units + 1 < cLine) (g : DGet H a y o) (q : Q (.bl o.isSome) H) : SemO X (compareOp .In) y (.ref a) H Q := fun pins s σ v u I rx ry => by
  cases ry
  exact d_in hu I g rx fun s' I' => ⟨.bl _, H, I', rfl, q⟩
theorem op_nin_dict {X : Cx} {a : Addr} {y : V} {o : Option V} {H : Hp} {Q : VK} (hu : X.A.units + 1 < cLine) (g : DGet H a y o) (q : Q (.bl (!o.isSome)) H) : SemO X (compareOp .NotIn) y (.ref a) H Q := fun pins s σ v u I rx ry => by
  cases ry
  exact d_notIn hu I g rx fun s' I' => ⟨.bl _, H, I', rfl, q⟩

section
variable {X : Cx} {g : Glo} {N : List Addr} {H : Hp} {u w : V} {Q : VK}
theorem fits_parts {d : D} {v : V} (h : fits 20 d = true) (r : Top g H N d v) : ∃ p, toPy d = some p ∧ SeqAt.shaped p = true ∧ p.depth ≤ 20 ∧ Dp g.K H v p := by
  obtain ⟨p, e, s, z⟩ := fits_shaped h
  exact ⟨p, e, s, z, r.dp e⟩
theorem eq_ok (hK : X.K = g.K) (hu : X.A.units + 64 < cLine) {x y : D} {k : Bool} (rx : Top g H N x u) (ry : Top g H N y w) (e : eqD x y = some k) (hQ : Q (.bl k) H) : SemO X (compareOp .Eq) u w H Q := by
  have gen : fits 20 x = true → fits 20 y = true → eqB x y = k → SemO X (compareOp .Eq) u w H Q := fun h1 h2 e => by
    obtain ⟨p, e1, s1, z1, d1⟩ := fits_parts h1 rx
    obtain ⟨q, e2, s2, z2, d2⟩ := fits_parts h2 ry
    rw [← hK] at d1 d2
    exact SemO.of (op_eqD hu) ⟨p, q, d1, d2, s1, s2, by rw [eqv_eqB x y p q e1 e2, e]; exact hQ⟩
  unfold eqD at e
  split at e
  · cases e
    rw [rx.str, ry.str]
    exact SemO.of op_eq ⟨rfl, by rw [dec_str]; exact hQ⟩
  · split at e
    · rename_i h
      rw [Bool.and_eq_true] at h
      exact gen h.1 h.2 (Option.some.inj e)
    · cases e
theorem ne_ok (hK : X.K = g.K) (hu : X.A.units + 64 < cLine) {x y : D} {k : Bool} (rx : Top g H N x u) (ry : Top g H N y w) (e : eqD x y = some k) (hQ : Q (.bl !k) H) : SemO X (compareOp .NotEq) u w H Q := by
  have gen : fits 20 x = true → fits 20 y = true → eqB x y = k → SemO X (compareOp .NotEq) u w H Q := fun h1 h2 e => by
    obtain ⟨p, e1, s1, z1, d1⟩ := fits_parts h1 rx
    obtain ⟨q, e2, s2, z2, d2⟩ := fits_parts h2 ry
    rw [← hK] at d1 d2
    exact SemO.of (op_neD hu) ⟨p, q, d1, d2, s1, s2, by rw [eqv_eqB x y p q e1 e2, e]; exact hQ⟩
  unfold eqD at e
  split at e
  · cases e
    rw [rx.str, ry.str]
    exact SemO.of op_ne ⟨rfl, by rw [dec_str]; exact hQ⟩
  · split at e
    · rename_i h
      rw [Bool.and_eq_true] at h
      exact gen h.1 h.2 (Option.some.inj e)
    · cases e
theorem in_parts (hu : X.A.units + 64 < cLine) {x : D} {ys : List D} (h : (fits 20 x && fits 20 (.lst ys)) = true) (rx : Top g H N x u) :
    ∃ p qs, toPy x = some p ∧ toPys ys = some qs ∧ PyData.canLayAll0 qs = true ∧ p.canLay0 = true ∧ X.A.units + 1 + min (PyData.depthAll qs) p.depth < cLine ∧ Dp g.K H u p := by
  rw [Bool.and_eq_true] at h
  obtain ⟨p, e1, s1, z1, d1⟩ := fits_parts h.1 rx
  obtain ⟨q, e2, c2, z2⟩ := fits_py 20 _ h.2
  simp only [toPy, Option.map_eq_some_iff] at e2
  obtain ⟨qs, e2, rfl⟩ := e2
  refine ⟨p, qs, e1, e2, c2, SeqAt.canLay_of_shaped s1, ?_, d1⟩
  have := Nat.min_le_right (PyData.depthAll qs) p.depth
  omega
theorem in_ok (hK : X.K = g.K) (hu : X.A.units + 64 < cLine) {x y : D} {k : Bool} (rx : Top g H N x u) (ry : Top g H N y w) (e : inB x y = some k) (hQ : Q (.bl k) H) : SemO X (compareOp .In) u w H Q := by
  unfold inB at e
  split at e
  · split at e
    · rename_i ys h
      obtain ⟨a, vs, rfl, ha, rl⟩ := ry.lstE
      obtain ⟨p, qs, e1, e2, c2, c1, z, d1⟩ := in_parts (X := X) hu h rx
      cases e
      intro pins s σ v u' I rv ru
      rw [← hK] at d1
      obtain ⟨as, r1⟩ := Dp.reads I p u v d1 rv
      obtain ⟨bs, r2⟩ := Dp.reads I (.list qs) (.ref a) u' (.lst (SqL.of ha) (by rw [hK]; exact rl.dp e2)) ru
      exact SeqAt.in_list_reads r2 r1 c2 c1 z ⟨.bl _, H, I, rfl, by rw [any_eqv e1 e2]; exact hQ⟩
    · cases e
  · split at e
    · rename_i ys h
      obtain ⟨a, vs, rfl, ha, _, rl⟩ := ry.tupE
      obtain ⟨p, qs, e1, e2, c2, c1, z, d1⟩ := in_parts (X := X) hu h rx
      cases e
      intro pins s σ v u' I rv ru
      rw [← hK] at d1
      obtain ⟨as, r1⟩ := Dp.reads I p u v d1 rv
      obtain ⟨bs, r2⟩ := Dp.reads I (.tuple qs) (.ref a) u' (.tup (SqT.of ha) (by rw [hK]; exact rl.dp e2)) ru
      exact SeqAt.in_tuple_reads r2 r1 c2 c1 z ⟨.bl _, H, I, rfl, by rw [any_eqv e1 e2]; exact hQ⟩
    · cases e
  · rename_i ks xs
    simp only [Option.map_eq_some_iff] at e
    obtain ⟨q, eq, rfl⟩ := e
    obtain ⟨a, kvs, rfl, ha, ek, rl⟩ := ry.dKE
    obtain ⟨d, hl⟩ := dget_of ha ek rl rx eq
    refine op_in_dict (by omega) d ?_
    cases h : look ks xs q with
    | none => rw [h] at hl hQ; rw [hl]; exact hQ
    | some z => rw [h] at hl hQ; obtain ⟨v, hv, _⟩ := hl; rw [hv]; exact hQ
  · rename_i ks xs
    split at e
    · simp only [Option.map_eq_some_iff] at e
      obtain ⟨q, eq, rfl⟩ := e
      obtain ⟨a, kvs, rfl, ha, ek, rl⟩ := ry.dTE
      obtain ⟨d, hl⟩ := dgetT_of ha ek rl rx eq
      refine op_in_dict (by omega) d ?_
      cases h : look ks xs q with
      | none => rw [h] at hl hQ; rw [hl]; exact hQ
      | some z => rw [h] at hl hQ; obtain ⟨v, hv, _⟩ := hl; rw [hv]; exact hQ
    · cases e
  · cases e
theorem nin_ok (hK : X.K = g.K) (hu : X.A.units + 64 < cLine) {x y : D} {k : Bool} (rx : Top g H N x u) (ry : Top g H N y w) (e : inB x y = some k) (hQ : Q (.bl !k) H) : SemO X (compareOp .NotIn) u w H Q := by
  unfold inB at e
  split at e
  · split at e
    · rename_i ys h
      obtain ⟨a, vs, rfl, ha, rl⟩ := ry.lstE
      obtain ⟨p, qs, e1, e2, c2, c1, z, d1⟩ := in_parts (X := X) hu h rx
      cases e
      intro pins s σ v u' I rv ru
      rw [← hK] at d1
      obtain ⟨as, r1⟩ := Dp.reads I p u v d1 rv
      obtain ⟨bs, r2⟩ := Dp.reads I (.list qs) (.ref a) u' (.lst (SqL.of ha) (by rw [hK]; exact rl.dp e2)) ru
      exact SeqAt.notIn_list_reads r2 r1 c2 c1 z ⟨.bl _, H, I, rfl, by rw [any_eqv e1 e2]; exact hQ⟩
    · cases e
  · split at e
    · rename_i ys h
      obtain ⟨a, vs, rfl, ha, _, rl⟩ := ry.tupE
      obtain ⟨p, qs, e1, e2, c2, c1, z, d1⟩ := in_parts (X := X) hu h rx
      cases e
      intro pins s σ v u' I rv ru
      rw [← hK] at d1
      obtain ⟨as, r1⟩ := Dp.reads I p u v d1 rv
      obtain ⟨bs, r2⟩ := Dp.reads I (.tuple qs) (.ref a) u' (.tup (SqT.of ha) (by rw [hK]; exact rl.dp e2)) ru
      exact SeqAt.notIn_tuple_reads r2 r1 c2 c1 z ⟨.bl _, H, I, rfl, by rw [any_eqv e1 e2]; exact hQ⟩
    · cases e
  · rename_i ks xs
    simp only [Option.map_eq_some_iff] at e
    obtain ⟨q, eq, rfl⟩ := e
    obtain ⟨a, kvs, rfl, ha, ek, rl⟩ := ry.dKE
    obtain ⟨d, hl⟩ := dget_of ha ek rl rx eq
    refine op_nin_dict (by omega) d ?_
    cases h : look ks xs q with
    | none => rw [h] at hl hQ; rw [hl]; exact hQ
    | some z => rw [h] at hl hQ; obtain ⟨v, hv, _⟩ := hl; rw [hv]; exact hQ
  · rename_i ks xs
    split at e
    · simp only [Option.map_eq_some_iff] at e
      obtain ⟨q, eq, rfl⟩ := e
      obtain ⟨a, kvs, rfl, ha, ek, rl⟩ := ry.dTE
      obtain ⟨d, hl⟩ := dgetT_of ha ek rl rx eq
      refine op_nin_dict (by omega) d ?_
      cases h : look ks xs q with
      | none => rw [h] at hl hQ; rw [hl]; exact hQ
      | some z => rw [h] at hl hQ; obtain ⟨v, hv, _⟩ := hl; rw [hv]; exact hQ
    · cases e
  · cases e
theorem mul_ok {i j : Int} (h : i.natAbs < 18446744073709551616 ∨ j.natAbs < 18446744073709551616) : CMul i j := by
  rcases h with h | h
  · exact .inl (by constructor <;> omega)
  · exact .inr (by constructor <;> omega)
theorem sz_lim {n : Nat} (h : n ≤ LIM) : n ≤ sizeLine := by rw [sizeLine_eq]; exact h
theorem op2_ok (hK : X.K = g.K) (hu : X.A.units + 64 < cLine) (hN : ∀ p, H p = none → p ∉ N) {o : O2} {x y z : D} (rx : Top g H N x u) (ry : Top g H N y w) (e : op2 o x y = some z)
    (hQ : ∀ v H', Grow H H' → Rv g H' N z v → Q v H') : SemO X o.nm.f u w H Q := by
  have i2 : ∀ {f : Value → Value → Sem Value} {k : Int → Int → D} {kv : Int → Int → V} {i j : Int}, OpR X f (rI0 fun i j => kv i j) → x = .int i → y = .int j → z = k i j → (∀ i j, Rv g H N (k i j) (kv i j)) → SemO X f u w H Q := fun {f k kv i j} ho ex ey ez rz => by
    subst ex ey ez
    exact SemO.of ho ⟨i, j, rx.int, ry.int, hQ _ _ (Grow.refl H) (rz i j)⟩
  have i2C : ∀ {f : Value → Value → Sem Value} {C : Int → Int → Prop} {k : Int → Int → D} {kv : Int → Int → V} {i j : Int}, OpR X f (rI C fun i j => kv i j) → x = .int i → y = .int j → C i j → z = k i j → (∀ i j, Rv g H N (k i j) (kv i j)) → SemO X f u w H Q := fun {f C k kv i j} ho ex ey hc ez rz => by
    subst ex ey ez
    exact SemO.of ho ⟨i, j, rx.int, ry.int, hc, hQ _ _ (Grow.refl H) (rz i j)⟩
  unfold op2 at e
  split at e
  · exact i2 op_add rfl rfl (Option.some.inj e).symm fun i j => .int _
  · split at e
    · rename_i h
      cases e
      exact SemO.of op_add_str ⟨_, _, rx.str, ry.str, sz_lim h, hQ _ _ (Grow.refl H) (.str _)⟩
    · cases e
  · split at e
    · rename_i h
      cases e
      obtain ⟨a, vs, rfl, ha, ra⟩ := rx.lstE
      obtain ⟨b, us, rfl, hb, rb⟩ := ry.lstE
      refine SemO.of op_cat ⟨a, b, vs, us, rfl, rfl, ha, hb, sz_lim (by rw [ra.length, rb.length]; exact h), fun p hp => hQ _ _ (Grow.new hp) (.lst upd_same (hN p hp) ?_)⟩
      exact (ra.keep (keepN hp)).append (rb.keep (keepN hp))
    · cases e
  · split at e
    · rename_i h
      cases e
      obtain ⟨a, vs, rfl, ha, na, ra⟩ := rx.tupE
      obtain ⟨b, us, rfl, hb, nb, rb⟩ := ry.tupE
      refine SemO.of op_catA ⟨a, b, vs, us, rfl, rfl, SqT.of ha, SqT.of hb, sz_lim (by rw [ra.length, rb.length]; exact h), fun ev => ?_, fun _ ev => ?_, fun _ _ p hp => hQ _ _ (Grow.new hp) (.tup upd_same (hN p hp) ((ra.keep (keepN hp)).append (rb.keep (keepN hp))))⟩
      · subst ev
        cases ra
        exact hQ _ _ (Grow.refl H) (.tup hb nb rb)
      · subst ev
        cases rb
        rw [List.append_nil] at hQ
        exact hQ _ _ (Grow.refl H) (.tup ha na ra)
    · cases e
  · exact i2 op_sub rfl rfl (Option.some.inj e).symm fun i j => .int _
  · split at e
    · rename_i h
      exact i2C op_mul rfl rfl (mul_ok h) (Option.some.inj e).symm fun i j => .int _
    · cases e
  · split at e
    · rename_i xs j h
      cases e
      obtain ⟨a, vs, rfl, ha, ra⟩ := rx.lstE
      obtain ⟨h1, h2, h3⟩ := h
      refine SemO.of op_rep ⟨a, _, vs, rfl, ry.int, ha, by omega, by omega, sz_lim ?_, fun p hp => hQ _ _ (Grow.new hp) (.lst upd_same (hN p hp) ((ra.keep (keepN hp)).rep _))⟩
      rw [ra.length]
      exact Nat.le_trans (Nat.mul_le_mul h3 (show j.toNat ≤ 1000 by omega)) (by decide)
    · cases e
  · split at e
    · rename_i h
      cases e
      obtain ⟨a, vs, rfl, ha, na, ra⟩ := rx.tupE
      obtain ⟨h1, h2, h3, h4⟩ := h
      refine SemO.of op_repT ⟨a, _, vs, rfl, ry.int, SqT.of ha, fun ev => h4 ?_, h1, h2, by rw [ra.length]; exact h3, fun p hp => hQ _ _ (Grow.new hp) (.tup upd_same (hN p hp) ((ra.keep (keepN hp)).rep _))⟩
      subst ev
      cases ra
      rfl
    · cases e
  · split at e
    · rename_i h
      exact i2C op_fdiv rfl rfl h (Option.some.inj e).symm fun i j => .int _
    · cases e
  · split at e
    · rename_i h
      exact i2C op_mod rfl rfl h (Option.some.inj e).symm fun i j => .int _
    · cases e
  · split at e
    · rename_i h
      exact i2C op_pow rfl rfl h (Option.some.inj e).symm fun i j => .int _
    · cases e
  · simp only [Option.map_eq_some_iff] at e
    obtain ⟨k, e, rfl⟩ := e
    exact eq_ok hK hu rx ry e (hQ _ _ (Grow.refl H) (.bl _))
  · simp only [Option.map_eq_some_iff] at e
    obtain ⟨k, e, rfl⟩ := e
    exact ne_ok hK hu rx ry e (hQ _ _ (Grow.refl H) (.bl _))
  · exact i2 op_lt rfl rfl (Option.some.inj e).symm fun i j => .bl _
  · exact i2 op_le rfl rfl (Option.some.inj e).symm fun i j => .bl _
  · exact i2 op_gt rfl rfl (Option.some.inj e).symm fun i j => .bl _
  · exact i2 op_ge rfl rfl (Option.some.inj e).symm fun i j => .bl _
  · cases e
    exact SemO.of op_isN ⟨ry.non, by rw [rx.isNon]; exact hQ _ _ (Grow.refl H) (.bl _)⟩
  · cases e
    exact SemO.of op_notN ⟨ry.non, by rw [rx.isNon]; exact hQ _ _ (Grow.refl H) (.bl _)⟩
  · simp only [Option.map_eq_some_iff] at e
    obtain ⟨k, e, rfl⟩ := e
    exact in_ok hK hu rx ry e (hQ _ _ (Grow.refl H) (.bl _))
  · simp only [Option.map_eq_some_iff] at e
    obtain ⟨k, e, rfl⟩ := e
    exact nin_ok hK hu rx ry e (hQ _ _ (Grow.refl H) (.bl _))
  · cases e
end
end Bf

set_option Elab.async false
set_option linter.all false
set_option maxHeartbeats 1000000
/-! Expressions: what the evaluator says is what the model does. -/
namespace Bf
open PySem L2
structure Gd (g : Glo) (k : Nat) (X : Cx) : Prop where
  nd : X.N.Nodup
  calm : X.calm = true
  room : Room k X.A
  hK : X.K = g.K
theorem Gd.hu {g : Glo} {k : Nat} {X : Cx} (G : Gd g k X) : X.A.units + 64 < cLine := G.room.units
section
variable (g : Glo) (X : Cx) (Wx : WX) (cl : Nat → List W → Mem → Rs W)
def JE (ir : E) (e : Expr) : Prop := ∀ (env : Env) (M : Mem) (σ : L2.St) (H : Hp) (cs : List CA) (B L : List Addr) (Q : VK), (L = [] ∨ ir.ro = true) → ER g cs H (NV cs B) env σ → MR g cs B L H M →
  Post g cs B L Wx σ (RS g cs B L) H (evE cl ir env M) Q → SemE X e σ H Q
def JT (ir : E) (e : Expr) : Prop := ∀ (env : Env) (M : Mem) (σ : L2.St) (H : Hp) (cs : List CA) (B L : List Addr) (Q : Bool → Hp → Prop), (L = [] ∨ ir.ro = true) → ER g cs H (NV cs B) env σ → MR g cs B L H M →
  Post g cs B L Wx σ relB H (tstB (evE cl ir env M)) Q → SemT X e σ H Q
def SemW (X : Cx) (e : Expr) : TT := fun σ H Q => ∀ (wh : Sem Value) (pins : List (Addr × Obj)) (s : Shared), Inv X pins σ H s → wpAny (model X.prog X.w) X.A (isTrue e X.env wh) (TP X pins σ Q) X.xe s
/-- .. whatever its whole is -/
def JW (ir : E) (e : Expr) : Prop := ∀ (env : Env) (M : Mem) (σ : L2.St) (H : Hp) (cs : List CA) (B L : List Addr) (Q : Bool → Hp → Prop), (L = [] ∨ ir.ro = true) → ER g cs H (NV cs B) env σ → MR g cs B L H M →
  Post g cs B L Wx σ relB H (tstB (evE cl ir env M)) Q → SemW X e σ H Q
def JA (ir : Es) (es : List Expr) : Prop := ∀ (env : Env) (M : Mem) (σ : L2.St) (H : Hp) (cs : List CA) (B L : List Addr) (Q : List V → Hp → Prop), (L = [] ∨ ir.ro = true) → ER g cs H (NV cs B) env σ → MR g cs B L H M →
  Post g cs B L Wx σ (relA g cs B) H (evEs cl ir env M) Q → SemA X es σ H Q
end
theorem pw_sem {X : Cx} {e : Expr} : PW X e (SemW X e) := ⟨fun wh pins s σ H Q I h => h wh pins s I⟩
theorem SemW.of {X : Cx} {e : Expr} {σ : L2.St} {H : Hp} {t : TT} {Q : Bool → Hp → Prop} (h : PW X e t) (q : t σ H Q) : SemW X e σ H Q := fun wh pins s I => h.run wh pins s σ H Q I q
theorem SemW.mono {X : Cx} {e : Expr} {σ : L2.St} {H : Hp} {Q Q' : Bool → Hp → Prop} (h : SemW X e σ H Q) (q : ∀ v H', Q v H' → Q' v H') : SemW X e σ H Q' := fun wh pins s I => thn (h wh pins s I) fun u s1 ⟨H1, I1, z⟩ => ⟨H1, I1, q u H1 z⟩
theorem SemW.t {X : Cx} {e : Expr} {σ : L2.St} {H : Hp} {Q : Bool → Hp → Prop} (h : SemW X e σ H Q) : SemT X e σ H Q := fun pins s I => h _ pins s I
theorem pt_ifExp {X : Cx} {c a b : Expr} {tc ta tb : TT} {pos : Pos} (hc : PT X c tc) (ha : PT X a ta) (hb : PT X b tb) : PT X (.IfExp c a b pos) (fun σ H Q => tc σ H fun k H1 => if k = true then ta σ H1 Q else tb σ H1 Q) := by
  refine ⟨fun pins s σ H Q I h => ?_⟩
  show wpAny _ _ (do if ← isTrue c X.env (eval c X.env) then isTrue a X.env (eval a X.env) else isTrue b X.env (eval b X.env)) _ _ _
  refine wpAny_bind (thn (hc.run pins s σ H _ I h) fun d s1 ⟨H1, I1, q1⟩ => ?_)
  cases d with
  | true => exact ha.run pins s1 σ H1 Q I1 q1
  | false => exact hb.run pins s1 σ H1 Q I1 q1
section
variable {g : Glo} {X : Cx} {Wx : WX} {cl : Nat → List W → Mem → Rs W} {k : Nat} {pos : Pos}
theorem JW.t {ir : E} {e : Expr} (h : JW g X Wx cl ir e) : JT g X Wx cl ir e := fun env M σ H cs B L Q hl he m post => (h env M σ H cs B L Q hl he m post).t
/-- an expression that is no and, or, not, comparison, as a test -/
theorem jt_val {ir : E} {e : Expr} (h : JE g X Wx cl ir e) (hp : ∀ whole, isTrue e X.env whole = (do let v ← whole; standAt e.pos; holding [v] (truthy v))) : JT g X Wx cl ir e := fun env M σ H cs B L Q hl he m post => by
  refine SemT.of (pt_val pe_sem hp) ?_
  show SemE X e σ H fun x H1 => ∃ c, x = .bl c ∧ Q c H1
  refine h env M σ H cs B L _ hl he m (Post.mono (Post.bind (rel := RS g cs B L) backs_B post) fun v H1 ⟨w, M1, e1, m1, r1, p1⟩ => ?_)
  cases w with
  | v d =>
    cases d with
    | bl c =>
      cases r1 with
      | v r => cases r; exact ⟨c, rfl, p1 c H1 Ext.refl m1 rfl⟩
    | _ => exact p1.elim
  | _ => exact p1.elim
theorem je_lit {d : D} {c : Const} {j : Nat} (h : match d, c with
    | .non, .none => True
    | .bl b, .bool b' => b = b'
    | .int i, .int i' => i = i'
    | .str s, .str s' => s = s'
    | _, _ => False) : JE g X Wx cl (.lit d) (.Constant c j pos) := fun env M σ H cs B L Q hl he m post => by
  cases d <;> cases c <;> first
    | exact h.elim
    | exact SemE.of pe_non (post _ H Ext.refl m (.v .non))
    | (subst h; exact SemE.of pe_bl (post _ H Ext.refl m (.v (.bl _))))
    | (subst h; exact SemE.of pe_int (post _ H Ext.refl m (.v (.int _))))
    | (subst h; exact SemE.of pe_str (post _ H Ext.refl m (.v (.str _))))
theorem je_var {i : Nat} {x : PySem.Str} (hN : X.N[i]? = some x) (hv : Vis X.env.scope x) (hd : (x == ("__debug__" : PySem.Str)) = false) (hcd : (x == ("__classdict__" : PySem.Str)) = false) : JE g X Wx cl (.var i) (.Name x pos) := fun env M σ H cs B L Q hl he m post => by
  refine SemE.of (pe_var hN hv hd hcd) ?_
  simp only [evE] at post
  cases h : env[i]? with
  | none => rw [h] at post; exact post.elim
  | some o =>
    cases o with
    | none => rw [h] at post; exact post.elim
    | some w =>
      rw [h] at post
      obtain ⟨v, e1, r⟩ := he.at_ i w h
      refine ⟨v, e1, ?_⟩
      cases r with
      | v r => exact post _ H Ext.refl m (.v r)
      | c r => exact post _ H Ext.refl m (.c r)
      | f r q => exact post _ H Ext.refl m (.f r q)
      | n => exact post.elim
/-- a module's constant -/
theorem je_glo {x : PySem.Str} {d : D} {v : V} {u : Value} (hg : Gl X x) (hm : X.mg x = some u) (r : RelV v u) (rd : ∀ H N, Rv g H N d v) (hd : (x == ("__debug__" : PySem.Str)) = false) : JE g X Wx cl (.glo x d) (.Name x pos) := fun env M σ H cs B L Q hl he m post =>
  SemE.of (pe_glob hg hm r hd) (post _ H Ext.refl m (.v (rd _ _)))
section
variable {a b c : E} {x y z : Expr}
theorem ro2 {L : List Addr} {p q : Bool} (h : L = [] ∨ (p && q) = true) : (L = [] ∨ p = true) ∧ (L = [] ∨ q = true) := by
  rcases h with h | h
  · exact ⟨.inl h, .inl h⟩
  · rw [Bool.and_eq_true] at h
    exact ⟨.inr h.1, .inr h.2⟩
/-- two operands and an operator, from the left -/
theorem bin_ok (G : Gd g k X) {o : O2} {env : Env} {M : Mem} {σ : L2.St} {H : Hp} {cs : List CA} {B L : List Addr} {Q : VK} (ja : JE g X Wx cl a x) (jb : JE g X Wx cl b y) (hl : L = [] ∨ (E.b2 o a b).ro = true) (he : ER g cs H (NV cs B) env σ) (m : MR g cs B L H M)
    (post : Post g cs B L Wx σ (RS g cs B L) H (evE cl (.b2 o a b) env M) Q) : SemE X x σ H fun u H1 => SemE X y σ H1 fun v H2 => SemO X o.nm.f u v H2 Q := by
  obtain ⟨la, lb⟩ := ro2 hl
  simp only [evE] at post
  refine (ja env M σ H cs B L _ la he m (post.bind (rel := RS g cs B L) backs_S)).mono fun u H1 ⟨wa, M1, e1, m1, r1, p1⟩ => ?_
  refine (jb env M1 σ H1 cs B L _ lb (he.keep e1.keep) m1 (Post.bind (rel := RS g cs B L) backs_S p1)).mono fun v H2 ⟨wb, M2, e2, m2, r2, p2⟩ => ?_
  cases hb : wb.get M2 with
  | none => rw [hb] at p2; exact p2.elim
  | some yd =>
    rw [hb] at p2
    cases ha : wa.get M2 with
    | none => simp only [ha] at p2; exact p2.elim
    | some xd =>
      simp only [ha] at p2
      cases ho : op2 o xd yd with
      | none => rw [ho] at p2; exact p2.elim
      | some zd =>
        rw [ho] at p2
        exact op2_ok G.hK G.hu (fun p hp => not_NV m2 hp) (((r1.rw m).keep e2.keep).top m2 ha) ((r2.rw m1).top m2 hb) ho fun v H' gr rv => p2 v H' gr.ext (gr.mr m2) (.v rv)
theorem je_bin (G : Gd g k X) {o : O2} {op : Operator} (ho : o.nm = .b op) (ja : JE g X Wx cl a x) (jb : JE g X Wx cl b y) : JE g X Wx cl (.b2 o a b) (.BinOp x op y pos) := fun env M σ H cs B L Q hl he m post => by
  have h := bin_ok G ja jb hl he m post
  rw [ho] at h
  exact SemE.of (pe_op op_sem pe_sem pe_sem) h
theorem je_cmp (G : Gd g k X) {o : O2} {op : CmpOp} (ho : o.nm = .c op) (hm : behindInMarks op y = false) (ja : JE g X Wx cl a x) (jb : JE g X Wx cl b y) : JE g X Wx cl (.b2 o a b) (.Compare x [op] [y] pos) := fun env M σ H cs B L Q hl he m post => by
  have h := bin_ok G ja jb hl he m post
  rw [ho] at h
  exact SemE.of (pe_cmpR op_sem pe_sem pe_sem hm) h
/-- a reading of a value, as a test -/
theorem tst_of {r : Rs W} {H : Hp} {σ : L2.St} {cs : List CA} {B L : List Addr} {Q : Bool → Hp → Prop} (post : Post g cs B L Wx σ relB H (tstB r) Q) : Post g cs B L Wx σ (RS g cs B L) H r (fun v H1 => ∃ c, v = .bl c ∧ Q c H1) :=
  Post.mono (Post.bind (rel := RS g cs B L) backs_B post) fun v H1 ⟨w, M1, e1, m1, r1, p1⟩ => by
    cases w with
    | v d =>
      cases d with
      | bl c =>
        cases r1 with
        | v r => cases r; exact ⟨c, rfl, p1 c H1 Ext.refl m1 rfl⟩
      | _ => exact p1.elim
    | _ => exact p1.elim
theorem jt_cmp (G : Gd g k X) {o : O2} {op : CmpOp} (ho : o.nm = .c op) (hm : behindInMarks op y = false) (ja : JE g X Wx cl a x) (jb : JE g X Wx cl b y) : JT g X Wx cl (.b2 o a b) (.Compare x [op] [y] pos) := fun env M σ H cs B L Q hl he m post => by
  have h := bin_ok G ja jb hl he m (tst_of post)
  rw [ho] at h
  exact SemT.of (pt_cmpR op_sem pe_sem pe_sem hm) h
/-- x op y op' z -/
theorem chain_ok (G : Gd g k X) {o o' : O2} {env : Env} {M : Mem} {σ : L2.St} {H : Hp} {cs : List CA} {B L : List Addr} {Q : VK} (ja : JE g X Wx cl a x) (jb : JE g X Wx cl b y) (jc : JE g X Wx cl c z) (hl : L = [] ∨ (E.chain o o' a b c).ro = true) (he : ER g cs H (NV cs B) env σ) (m : MR g cs B L H M)
    (post : Post g cs B L Wx σ (RS g cs B L) H (evE cl (.chain o o' a b c) env M) Q) : tChain (SemO X o.nm.f) (SemO X o'.nm.f) (SemE X x) (SemE X y) (SemE X z) σ H Q := by
  obtain ⟨lab, lc⟩ := ro2 hl
  obtain ⟨la, lb⟩ := ro2 lab
  simp only [evE] at post
  refine (ja env M σ H cs B L _ la he m (Post.bind (rel := RS g cs B L) backs_S post)).mono fun u H1 ⟨wa, M1, e1, m1, r1, p1⟩ => ?_
  refine (jb env M1 σ H1 cs B L _ lb (he.keep e1.keep) m1 (Post.bind (rel := RS g cs B L) backs_S p1)).mono fun v H2 ⟨wb, M2, e2, m2, r2, p2⟩ => ?_
  cases wa with
  | v xd =>
    cases wb with
    | v yd =>
      have ta := ((r1.rw m).keep e2.keep).top m2 (d := xd) rfl
      have tb := (r2.rw m1).top m2 (d := yd) rfl
      dsimp only at p2
      cases ho : op2 o xd yd with
      | none => rw [ho] at p2; exact p2.elim
      | some q =>
        rw [ho] at p2
        cases q with
        | bl kk =>
          refine op2_ok G.hK G.hu (fun p hp => not_NV m2 hp) ta tb ho fun w H3 gr rv => ?_
          cases rv
          refine ⟨kk, rfl, ?_⟩
          have m3 := gr.mr m2
          cases kk with
          | false =>
            rw [if_neg (by decide)]
            exact p2 _ _ gr.ext m3 (.v (.bl _))
          | true =>
            rw [if_pos rfl]
            have p3 := Post.later backs_S m3 (gr.ext (cs := cs)) p2
            refine (jc env M2 σ H3 cs B L _ lc (((he.keep e1.keep).keep e2.keep).keep (gr.ext (L := L)).keep) m3 (Post.bind (rel := RS g cs B L) backs_S p3)).mono fun w H4 ⟨wc, M4, e4, m4, r4, p4⟩ => ?_
            cases wc with
            | v zd =>
              have tc := (r4.rw m3).top m4 (d := zd) rfl
              dsimp only at p4
              cases ho' : op2 o' yd zd with
              | none => rw [ho'] at p4; exact p4.elim
              | some r =>
                rw [ho'] at p4
                have tb' : Top g H4 (NV cs B) yd v := (((r2.rw m1).keep (gr.ext (L := L)).keep).keep e4.keep).top m4 (d := yd) rfl
                exact op2_ok G.hK G.hu (fun p hp => not_NV m4 hp) tb' tc ho' fun w5 H5 g5 r5 => p4 w5 H5 g5.ext (g5.mr m4) (.v r5)
            | _ => exact p4.elim
        | _ => exact p2.elim
    | _ => exact p2.elim
  | _ => exact p2.elim
theorem je_chain (G : Gd g k X) {o o' : O2} {op op' : CmpOp} (ho : o.nm = .c op) (ho' : o'.nm = .c op') (hm : lastMarks [op, op'] [y, z] = false) (ja : JE g X Wx cl a x) (jb : JE g X Wx cl b y) (jc : JE g X Wx cl c z) : JE g X Wx cl (.chain o o' a b c) (.Compare x [op, op'] [y, z] pos) := fun env M σ H cs B L Q hl he m post => by
  have h := chain_ok G ja jb jc hl he m post
  rw [ho, ho'] at h
  exact SemE.of (pe_chain op_sem op_sem pe_sem pe_sem pe_sem hm) h
theorem jt_chain (G : Gd g k X) {o o' : O2} {op op' : CmpOp} (ho : o.nm = .c op) (ho' : o'.nm = .c op') (hm : lastMarks [op, op'] [y, z] = false) (ja : JE g X Wx cl a x) (jb : JE g X Wx cl b y) (jc : JE g X Wx cl c z) : JT g X Wx cl (.chain o o' a b c) (.Compare x [op, op'] [y, z] pos) := fun env M σ H cs B L Q hl he m post => by
  have h := chain_ok G ja jb jc hl he m (tst_of post)
  rw [ho, ho'] at h
  exact SemT.of (pt_chain op_sem op_sem pe_sem pe_sem pe_sem hm) h
/-! ### and, or, not -/
variable {xs : List Expr}
theorem je_one {op : BoolOp} (h : JE g X Wx cl a x) : JE g X Wx cl a (.BoolOp op [x] pos) := fun env M σ H cs B L Q hl he m post => SemE.of (pe_one pe_sem) (h env M σ H cs B L Q hl he m post)
theorem jw_and1 (h : JT g X Wx cl a x) : JW g X Wx cl a (.BoolOp .And [x] pos) := fun env M σ H cs B L Q hl he m post => SemW.of (pw_and1 pt_sem) (h env M σ H cs B L Q hl he m post)
theorem jw_or1 (h : JT g X Wx cl a x) : JW g X Wx cl a (.BoolOp .Or [x] pos) := fun env M σ H cs B L Q hl he m post => SemW.of (pw_or1 pt_sem) (h env M σ H cs B L Q hl he m post)
theorem je_and (ja : JE g X Wx cl a x) (jb : JE g X Wx cl b (.BoolOp .And (y :: xs) pos)) : JE g X Wx cl (.and a b) (.BoolOp .And (x :: y :: xs) pos) := fun env M σ H cs B L Q hl he m post => by
  obtain ⟨la, lb⟩ := ro2 hl
  simp only [evE, tst] at post
  refine SemE.of (pe_and pe_sem pe_sem) ?_
  show SemE X x σ H fun v H1 => ∃ c, v = .bl c ∧ if c = true then SemE X (.BoolOp .And (y :: xs) pos) σ H1 Q else Q (.bl false) H1
  refine (ja env M σ H cs B L _ la he m (tst_of (Post.bind (rel := relB) backs_S post))).mono fun u H1 ⟨c, ec, k1, M1, e1, m1, r1, p1⟩ => ⟨c, ec, ?_⟩
  obtain rfl : k1 = c := r1
  cases k1 with
  | false =>
    rw [if_neg (by decide)]
    exact p1 _ _ Ext.refl m1 (.v (.bl _))
  | true =>
    rw [if_pos rfl]
    refine (jb env M1 σ H1 cs B L _ lb (he.keep e1.keep) m1 (tst_of (Post.bind (rel := relB) backs_S p1))).mono fun u H2 ⟨c, ec, k2, M2, e2, m2, r2, p2⟩ => ?_
    obtain rfl : k2 = c := r2
    subst ec
    exact p2 _ _ Ext.refl m2 (.v (.bl _))
theorem je_or (ja : JE g X Wx cl a x) (jb : JE g X Wx cl b (.BoolOp .Or (y :: xs) pos)) : JE g X Wx cl (.or a b) (.BoolOp .Or (x :: y :: xs) pos) := fun env M σ H cs B L Q hl he m post => by
  obtain ⟨la, lb⟩ := ro2 hl
  simp only [evE, tst] at post
  refine SemE.of (pe_or pe_sem pe_sem) ?_
  show SemE X x σ H fun v H1 => ∃ c, v = .bl c ∧ if c = true then Q (.bl true) H1 else SemE X (.BoolOp .Or (y :: xs) pos) σ H1 Q
  refine (ja env M σ H cs B L _ la he m (tst_of (Post.bind (rel := relB) backs_S post))).mono fun u H1 ⟨c, ec, k1, M1, e1, m1, r1, p1⟩ => ⟨c, ec, ?_⟩
  obtain rfl : k1 = c := r1
  cases k1 with
  | true =>
    rw [if_pos rfl]
    exact p1 _ _ Ext.refl m1 (.v (.bl _))
  | false =>
    rw [if_neg (by decide)]
    refine (jb env M1 σ H1 cs B L _ lb (he.keep e1.keep) m1 (tst_of (Post.bind (rel := relB) backs_S p1))).mono fun u H2 ⟨c, ec, k2, M2, e2, m2, r2, p2⟩ => ?_
    obtain rfl : k2 = c := r2
    subst ec
    exact p2 _ _ Ext.refl m2 (.v (.bl _))
theorem je_not (ja : JE g X Wx cl a x) : JE g X Wx cl (.not a) (.UnaryOp .Not x pos) := fun env M σ H cs B L Q hl he m post => by
  simp only [evE, tst] at post
  refine SemE.of (pe_not pe_sem) ?_
  show SemE X x σ H fun v H1 => ∃ c, v = .bl c ∧ Q (.bl (!c)) H1
  refine (ja env M σ H cs B L _ hl he m (tst_of (Post.bind (rel := relB) backs_S post))).mono fun u H1 ⟨c, ec, k1, M1, e1, m1, r1, p1⟩ => ⟨c, ec, ?_⟩
  obtain rfl : k1 = c := r1
  exact p1 _ _ Ext.refl m1 (.v (.bl _))
theorem tstB_bind {r : Rs Bool} {f : Bool → Mem → Rs W} : tstB (r.bind f) = r.bind fun k M => tstB (f k M) := by
  cases r <;> rfl
theorem jt_not (ja : JT g X Wx cl a x) : JT g X Wx cl (.not a) (.UnaryOp .Not x pos) := fun env M σ H cs B L Q hl he m post => by
  simp only [evE, tst, tstB_bind] at post
  refine SemT.of (pt_not pt_sem) ?_
  show SemT X x σ H fun c H1 => Q (!c) H1
  refine (ja env M σ H cs B L _ hl he m (Post.bind (rel := relB) backs_B post)).mono fun c H1 ⟨k1, M1, e1, m1, r1, p1⟩ => ?_
  obtain rfl : k1 = c := r1
  exact p1 _ _ Ext.refl m1 rfl
theorem jw_and (ja : JT g X Wx cl a x) (jb : JW g X Wx cl b (.BoolOp .And (y :: xs) pos)) : JW g X Wx cl (.and a b) (.BoolOp .And (x :: y :: xs) pos) := fun env M σ H cs B L Q hl he m post => by
  obtain ⟨la, lb⟩ := ro2 hl
  simp only [evE, tst, tstB_bind] at post
  refine SemW.of (pw_and pt_sem pw_sem) ?_
  show SemT X x σ H fun c H1 => if c = true then SemW X (.BoolOp .And (y :: xs) pos) σ H1 Q else Q false H1
  refine (ja env M σ H cs B L _ la he m (Post.bind (rel := relB) backs_B post)).mono fun c H1 ⟨k1, M1, e1, m1, r1, p1⟩ => ?_
  obtain rfl : k1 = c := r1
  cases k1 with
  | false =>
    rw [if_neg (by decide)]
    exact p1 _ _ Ext.refl m1 rfl
  | true =>
    rw [if_pos rfl]
    simp only [tstB_bind] at p1
    refine (jb env M1 σ H1 cs B L _ lb (he.keep e1.keep) m1 (Post.bind (rel := relB) backs_B p1)).mono fun c H2 ⟨k2, M2, e2, m2, r2, p2⟩ => ?_
    obtain rfl : k2 = c := r2
    exact p2 _ _ Ext.refl m2 rfl
theorem jw_or (ja : JT g X Wx cl a x) (jb : JW g X Wx cl b (.BoolOp .Or (y :: xs) pos)) : JW g X Wx cl (.or a b) (.BoolOp .Or (x :: y :: xs) pos) := fun env M σ H cs B L Q hl he m post => by
  obtain ⟨la, lb⟩ := ro2 hl
  simp only [evE, tst, tstB_bind] at post
  refine SemW.of (pw_or pt_sem pw_sem) ?_
  show SemT X x σ H fun c H1 => if c = true then Q true H1 else SemW X (.BoolOp .Or (y :: xs) pos) σ H1 Q
  refine (ja env M σ H cs B L _ la he m (Post.bind (rel := relB) backs_B post)).mono fun c H1 ⟨k1, M1, e1, m1, r1, p1⟩ => ?_
  obtain rfl : k1 = c := r1
  cases k1 with
  | true =>
    rw [if_pos rfl]
    exact p1 _ _ Ext.refl m1 rfl
  | false =>
    rw [if_neg (by decide)]
    simp only [tstB_bind] at p1
    refine (jb env M1 σ H1 cs B L _ lb (he.keep e1.keep) m1 (Post.bind (rel := relB) backs_B p1)).mono fun c H2 ⟨k2, M2, e2, m2, r2, p2⟩ => ?_
    obtain rfl : k2 = c := r2
    exact p2 _ _ Ext.refl m2 rfl
theorem je_ite (jc : JT g X Wx cl c z) (ja : JE g X Wx cl a x) (jb : JE g X Wx cl b y) : JE g X Wx cl (.ite c a b) (.IfExp z x y pos) := fun env M σ H cs B L Q hl he m post => by
  obtain ⟨lca, lb⟩ := ro2 hl
  obtain ⟨lc, la⟩ := ro2 lca
  simp only [evE, tst] at post
  refine SemE.of (pe_ifExp pt_sem pe_sem pe_sem) ?_
  show SemT X z σ H fun c H1 => if c = true then SemE X x σ H1 Q else SemE X y σ H1 Q
  refine (jc env M σ H cs B L _ lc he m (Post.bind (rel := relB) backs_S post)).mono fun c H1 ⟨k1, M1, e1, m1, r1, p1⟩ => ?_
  obtain rfl : k1 = c := r1
  cases k1 with
  | true => rw [if_pos rfl]; exact ja env M1 σ H1 cs B L Q la (he.keep e1.keep) m1 p1
  | false => rw [if_neg (by decide)]; exact jb env M1 σ H1 cs B L Q lb (he.keep e1.keep) m1 p1
theorem jt_ite (jc : JT g X Wx cl c z) (ja : JT g X Wx cl a x) (jb : JT g X Wx cl b y) : JT g X Wx cl (.ite c a b) (.IfExp z x y pos) := fun env M σ H cs B L Q hl he m post => by
  obtain ⟨lca, lb⟩ := ro2 hl
  obtain ⟨lc, la⟩ := ro2 lca
  simp only [evE, tst, tstB_bind] at post
  refine SemT.of (pt_ifExp pt_sem pt_sem pt_sem) ?_
  show SemT X z σ H fun c H1 => if c = true then SemT X x σ H1 Q else SemT X y σ H1 Q
  refine (jc env M σ H cs B L _ lc he m (Post.bind (rel := relB) backs_B post)).mono fun c H1 ⟨k1, M1, e1, m1, r1, p1⟩ => ?_
  obtain rfl : k1 = c := r1
  cases k1 with
  | true => rw [if_pos rfl]; exact ja env M1 σ H1 cs B L Q la (he.keep e1.keep) m1 p1
  | false => rw [if_neg (by decide)]; exact jb env M1 σ H1 cs B L Q lb (he.keep e1.keep) m1 p1
end
end
end Bf

set_option Elab.async false
set_option linter.all false
set_option maxHeartbeats 1000000
/-! Displays, arguments, subscripts, slices, fields. -/
namespace Bf
open PySem PySem.Spec PyProof.Rows L2
theorem ix_dict {X : Cx} (hu : X.A.units + 1 < cLine) : IxR X (fun x y H Q => ∃ a v, x = .ref a ∧ DGet H a y (some v) ∧ Q v H) := by
  intro value slice pins s σ H x y v u Q I rx ry h hs
  obtain ⟨a, r, rfl, gt, q⟩ := h
  cases rx
  have hT := dict_typeIs I gt
  unfold subscriptTail
  refine wpAny_bind ?_
  rw [getitemInPython_of_ne hT.not_modules]
  refine wpAny_bind (wpAny_specialOf hT PySem.F.slot_dict_getitem.lookup ?_)
  have fin : wpAny (model X.prog X.w) X.A (subscripted slice false (.ref a) u) (fun r s₃ => wpAny (model X.prog X.w) X.A (letTemporaryGo value (.ref a) r >>= fun _ => pure r) (EP X pins σ Q) X.xe s₃) X.xe s := by
    rw [hs]
    refine wpAny_operating ?_
    exact wpAny_mono (d_getItem hu I gt ry (Q := EP X pins σ Q) fun w' s3 I3 rw' => ⟨r, H, I3, rw', q⟩) (fun r s₃ h₃ => wpAny_bind (wpAny_letTemporaryGo (wpAny_pure h₃))) fun _ _ x => x
  first
    | exact wpAny_pure (wpAny_bind fin)
    | exact wpAny_bind (wpAny_pure (wpAny_bind fin))
    | exact wpAny_bind fin
def notStar : Expr → Bool
  | .Starred .. => false
  | _ => true
theorem star_cons {x : Expr} {xs : List Expr} {env : PySem.Env} (h : notStar x = true) : starEach (x :: xs) env = (false, eval x env) :: starEach xs env := by
  cases x <;> first | rfl | cases h
def plainIxB : Expr → Bool
  | .Slice .. => false
  | _ => true
theorem plainIx_of {b : Expr} (h : plainIxB b = true) : PlainIx b := by
  intro o i
  cases b <;> first | rfl | cases h
def notSuper : Expr → Bool
  | .Call .. => false
  | _ => true
theorem base_of {o : Expr} {m : PySem.Str} {env : PySem.Env} {w : Sem Value} (h : notSuper o = true) : attributeBase o m env w = w := by
  cases o <;> first | rfl | cases h
section
variable {g : Glo} {X : Cx} {Wx : WX} {cl : Nat → List W → Mem → Rs W} {k : Nat} {pos : Pos} {a b c : E} {x y z : Expr} {es : Es} {xs : List Expr}
theorem toV_post {r : Rs W} {H : Hp} {σ : L2.St} {cs : List CA} {B L : List Addr} {M : Mem} (m : MR g cs B L H M) {Q : VK} (post : Post g cs B L Wx σ (RS g cs B L) H (toV r) Q) : Post g cs B L Wx σ (RS g cs B L) H r Q := by
  cases r with
  | ok w M1 =>
    cases w with
    | n ys =>
      intro v H' e m1 rs
      have h := rs.rw m
      cases h with
      | n h1 h2 h3 => exact post _ H' e m1 (.v (.lst h1 h2 h3))
    | _ => exact post
  | _ => exact post
theorem ja_nil : JA g X Wx cl .nil [] := fun env M σ H cs B L Q hl he m post => SemA.of pa_nil (post [] H Ext.refl m .nil)
theorem rsToV {r : Rs W} {f : W → Mem → Rs (List W)} : (toV r).bind f = r.bind fun w M => (toV (.ok w M)).bind f := by
  cases r <;> rfl
theorem ja_cons (hs : notStar x = true) (ja : JE g X Wx cl a x) (jr : JA g X Wx cl es xs) : JA g X Wx cl (.cons a es) (x :: xs) := fun env M σ H cs B L Q hl he m post => by
  obtain ⟨la, lr⟩ := ro2 hl
  refine SemA.of (pa_cons pe_sem pa_sem (star_cons hs)) ?_
  show SemE X x σ H fun v H1 => SemA X xs σ H1 fun vs H2 => Q (v :: vs) H2
  simp only [evEs] at post
  refine (ja env M σ H cs B L _ la he m (toV_post m (Post.bind (rel := RS g cs B L) backs_A post))).mono fun v H1 ⟨w, M1, e1, m1, r1, p1⟩ => ?_
  refine (jr env M1 σ H1 cs B L _ lr (he.keep e1.keep) m1 (Post.bind (rel := relA g cs B) backs_A p1)).mono fun vs H2 ⟨ws, M2, e2, m2, r2, p2⟩ => ?_
  exact p2 _ H2 Ext.refl m2 (.cons ((r1.rw m).keep e2.keep) r2)
theorem allV_rl : ∀ {ws : List Bf.W} {vs : List V} {ds : List D} {H : Hp} {cs : List CA} {B : List Addr}, RSs g cs B H ws vs → allV ws = some ds → Rl g H (NV cs B) ds vs
  | _, _, ds, H, cs, B, .nil, e => by cases e; exact .nil
  | _, _, ds, H, cs, B, .cons (w := w) r t, e => by
    cases w with
    | v d =>
      simp only [allV, Option.map_eq_some_iff] at e
      obtain ⟨es, e, rfl⟩ := e
      cases r with
      | v r => exact .cons r (allV_rl t e)
    | _ => cases e
theorem ja_star (ja : JE g X Wx cl a x) (jr : JA g X Wx cl es xs) {p : Pos} : JA g X Wx cl (.star a es) (.Starred x p :: xs) := fun env M σ H cs B L Q hl he m post => by
  have hl' : L = [] := by
    rcases hl with h | h
    · exact h
    · cases h
  subst hl'
  refine SemA.of (StX.pa_star pe_sem pa_sem rfl) ?_
  show SemE X x σ H fun v H1 => ∃ p xs', v = V.ref p ∧ (SqT X.K H1 p xs' ∨ SqL X.K H1 p xs') ∧ SemA X xs σ H1 fun ys H2 => Q (xs' ++ ys) H2
  simp only [evEs] at post
  refine (ja env M σ H cs B [] _ (.inl rfl) he m (Post.bind (rel := RS g cs B []) backs_A post)).mono fun v H1 ⟨w, M1, e1, m1, r1, p1⟩ => ?_
  have app : ∀ {ds : List D} {us : List V} {ws : List Bf.W} {vs : List V} {H : Hp}, Rl g H (NV cs B) ds us → RSs g cs B H ws vs → RSs g cs B H (ds.map .v ++ ws) (us ++ vs) := by
    intro ds us ws vs H h h2
    induction ds generalizing us with
    | nil => cases h; exact h2
    | cons d ds ih => cases h with | cons r t => exact .cons (.v r) (ih t)
  cases hw : w.get M1 with
  | none => rw [hw] at p1; exact p1.elim
  | some d =>
    have tp := (r1.rw m).top m1 hw
    cases d with
    | lst ds =>
      rw [hw] at p1
      obtain ⟨q, us, rfl, hq, rl⟩ := tp.lstE
      refine ⟨q, us, rfl, .inr (SqL.of hq), ?_⟩
      refine (jr env M1 σ H1 cs B [] _ (.inl rfl) (he.keep e1.keep) m1 (Post.bind (rel := relA g cs B) backs_A p1)).mono fun vs H2 ⟨ws, M2, e2, m2, r2, p2⟩ => ?_
      exact p2 _ H2 Ext.refl m2 (app (rl.keep e2.keep) r2)
    | tup ds =>
      rw [hw] at p1
      obtain ⟨q, us, rfl, hq, _, rl⟩ := tp.tupE
      refine ⟨q, us, rfl, .inl (SqT.of hq), ?_⟩
      refine (jr env M1 σ H1 cs B [] _ (.inl rfl) (he.keep e1.keep) m1 (Post.bind (rel := relA g cs B) backs_A p1)).mono fun vs H2 ⟨ws, M2, e2, m2, r2, p2⟩ => ?_
      exact p2 _ H2 Ext.refl m2 (app (rl.keep e2.keep) r2)
    | _ => rw [hw] at p1; exact p1.elim
/-! ### displays -/
theorem je_tup (ja : JA g X Wx cl es xs) {j : Nat} : JE g X Wx cl (.tup es) (.Tuple xs j pos) := fun env M σ H cs B L Q hl he m post => by
  refine SemE.of (pe_tup pa_sem) ?_
  show SemA X xs σ H fun vs H1 => vs.length ≤ sizeLine ∧ ∀ p, H1 p = none → Q (.ref p) (upd H1 p (.tup vs))
  simp only [evE] at post
  refine (ja env M σ H cs B L _ hl he m (Post.bind (rel := relA g cs B) backs_S post)).mono fun vs H1 ⟨ws, M1, e1, m1, r1, p1⟩ => ?_
  cases ha : allV ws with
  | none => rw [ha] at p1; exact p1.elim
  | some ds =>
    rw [ha] at p1
    have rl := allV_rl r1 ha
    by_cases hz : ds.length ≤ LIM
    · simp only [if_pos hz] at p1
      exact ⟨by rw [rl.length]; exact sz_lim hz, fun p hp => p1 _ _ (Ext.upd hp) (m1.fresh hp) (.v (.tup upd_same (not_NV m1 hp) (rl.keep (keepN hp))))⟩
    · simp only [if_neg hz] at p1; exact p1.elim
theorem freshBK {p : Addr} {H : Hp} {u : HO} {cs : List CA} {B : List Addr} (h : H p = none) : Keep H (NV cs B) (upd H p u) (NV cs (p :: B)) :=
  ⟨fun a u ha _ => by rw [upd_ne (ne_of_none ha h)]; exact ha, fun a u ha n z => by
    rcases List.mem_append.mp z with z | z
    · exact n (List.mem_append_left _ z)
    · rcases List.mem_cons.mp z with z | z
      · exact ne_of_none ha h z
      · exact n (List.mem_append_right _ z)⟩
theorem je_lst (ja : JA g X Wx cl es xs) : JE g X Wx cl (.lst es) (.List xs pos) := fun env M σ H cs B L Q hl he m post => by
  have hl' : L = [] := by
    rcases hl with h | h
    · exact h
    · cases h
  subst hl'
  refine SemE.of (pe_lst pa_sem) ?_
  show SemA X xs σ H fun vs H1 => vs.length ≤ sizeLine ∧ ∀ p, H1 p = none → Q (.ref p) (upd H1 p (.lst vs))
  simp only [evE] at post
  refine (ja env M σ H cs B [] _ (.inl rfl) he m (Post.bind (rel := relA g cs B) backs_S post)).mono fun vs H1 ⟨ws, M1, e1, m1, r1, p1⟩ => ?_
  cases ha : allV ws with
  | none => rw [ha] at p1; exact p1.elim
  | some ds =>
    rw [ha] at p1
    have rl := allV_rl r1 ha
    by_cases hz : ds.length ≤ LIM
    · simp only [if_pos hz] at p1
      refine ⟨by rw [rl.length]; exact sz_lim hz, fun p hp => p1 _ _ (Ext.upd hp) (m1.fresh hp) (.n hp (not_av (not_NV m1 hp)) upd_same ?_ (rl.keep (freshBK hp)))⟩
      exact m1.freshB hp
    · simp only [if_neg hz] at p1; exact p1.elim
theorem je_catN {a b : E} {x y : Expr} (ja : JE g X Wx cl a x) (jb : JE g X Wx cl b y) : JE g X Wx cl (.catN a b) (.BinOp x .Add y pos) := fun env M σ H cs B L Q hl he m post => by
  have hl' : L = [] := by
    rcases hl with h | h
    · exact h
    · cases h
  subst hl'
  refine SemE.of (pe_op op_sem pe_sem pe_sem) ?_
  simp only [evE] at post
  refine (ja env M σ H cs B [] _ (.inl rfl) he m (post.bind (rel := RS g cs B []) backs_S)).mono fun u H1 ⟨wa, M1, e1, m1, r1, p1⟩ => ?_
  refine (jb env M1 σ H1 cs B [] _ (.inl rfl) (he.keep e1.keep) m1 (Post.bind (rel := RS g cs B []) backs_S p1)).mono fun v H2 ⟨wb, M2, e2, m2, r2, p2⟩ => ?_
  cases hb : wb.get M2 with
  | none => rw [hb] at p2; exact p2.elim
  | some yd =>
    rw [hb] at p2
    cases ha : wa.get M2 with
    | none => simp only [ha] at p2; exact p2.elim
    | some xd =>
      simp only [ha] at p2
      cases xd with
      | lst xs => cases yd with
        | lst ys =>
          simp only [] at p2
          by_cases hz : xs.length + ys.length ≤ LIM
          · rw [if_pos hz] at p2
            obtain ⟨a, vs, rfl, hva, ra⟩ := (((r1.rw m).keep e2.keep).top m2 ha).lstE
            obtain ⟨b, us, rfl, hvb, rb⟩ := ((r2.rw m1).top m2 hb).lstE
            refine SemO.of op_cat ⟨a, b, vs, us, rfl, rfl, hva, hvb, sz_lim (by rw [ra.length, rb.length]; exact hz), fun p hp => ?_⟩
            exact p2 _ _ (Ext.upd hp) (m2.fresh hp) (.n hp (not_av (not_NV m2 hp)) upd_same (m2.freshB hp) ((ra.append rb).keep (freshBK hp)))
          · rw [if_neg hz] at p2; exact p2.elim
        | _ => exact p2.elim
      | _ => exact p2.elim
theorem je_newK : JE g X Wx cl .newK (.Dict [] [] pos) := fun env M σ H cs B L Q hl he m post =>
  SemE.of pe_dnewK fun p hp => post _ _ (Ext.upd hp) (m.fresh hp) (.v (.dK (.inl upd_same) (not_NV m hp) rfl rfl .nil))
theorem je_newT : JE g X Wx cl .newT (.Dict [] [] pos) := fun env M σ H cs B L Q hl he m post =>
  SemE.of pe_dnewT fun p hp => post _ _ (Ext.upd hp) (m.fresh hp) (.v (.dT (.inl upd_same) (not_NV m hp) rfl rfl .nil))
/-! ### subscripts -/
theorem atI_rl {ds : List D} {vs : List V} {i : Int} {d : D} {H : Hp} {N : List Addr} (r : Rl g H N ds vs) (e : atI ds i = some d) : ∃ v, atI vs i = some v ∧ Rv g H N d v := by
  unfold atI at e ⊢
  rw [r.length]
  cases h : ixN ds.length i with
  | none => rw [h] at e; cases e
  | some j =>
    rw [h] at e
    obtain ⟨v, h1, h2⟩ := r.get (i := j) e
    exact ⟨v, h1, h2⟩
theorem je_idx (G : Gd g k X) (hs : plainIxB y = true) (ja : JE g X Wx cl a x) (jb : JE g X Wx cl b y) : JE g X Wx cl (.idx a b) (.Subscript x y pos) := fun env M σ H cs B L Q hl he m post => by
  obtain ⟨la, lb⟩ := ro2 hl
  have hu : X.A.units + 1 < cLine := Nat.lt_of_le_of_lt (by omega) G.hu
  refine SemE.of (pe_ix (ix_list.or (ix_tup.or (ix_dict hu))) pe_sem pe_sem (plainIx_of hs)) ?_
  simp only [evE] at post
  refine (ja env M σ H cs B L _ la he m (Post.bind (rel := RS g cs B L) backs_S post)).mono fun u H1 ⟨wa, M1, e1, m1, r1, p1⟩ => ?_
  refine (jb env M1 σ H1 cs B L _ lb (he.keep e1.keep) m1 (Post.bind (rel := RS g cs B L) backs_S p1)).mono fun v H2 ⟨wb, M2, e2, m2, r2, p2⟩ => ?_
  cases hb : wb.get M2 with
  | none => rw [hb] at p2; exact p2.elim
  | some yd =>
    rw [hb] at p2
    cases ha : wa.get M2 with
    | none => simp only [ha] at p2; exact p2.elim
    | some xd =>
      simp only [ha] at p2
      have ta := ((r1.rw m).keep e2.keep).top m2 ha
      have tb := (r2.rw m1).top m2 hb
      cases ho : idxD xd yd with
      | none => rw [ho] at p2; exact p2.elim
      | some z =>
        rw [ho] at p2
        have fin : ∀ w, Rv g H2 (NV cs B) z w → Q w H2 := fun w r => p2 w H2 Ext.refl m2 (.v r)
        unfold idxD at ho
        split at ho
        · obtain ⟨q, us, rfl, hq, rl⟩ := ta.lstE
          obtain ⟨w, hw, rw'⟩ := atI_rl rl ho
          exact .inl ⟨q, us, _, w, rfl, tb.int, SqL.of hq, hw, fin w rw'⟩
        · obtain ⟨q, us, rfl, hq, _, rl⟩ := ta.tupE
          obtain ⟨w, hw, rw'⟩ := atI_rl rl ho
          exact .inr (.inl ⟨q, us, _, w, rfl, tb.int, SqT.of hq, hw, fin w rw'⟩)
        · rename_i ks ds
          obtain ⟨kk, ek, eo⟩ := Option.bind_eq_some_iff.mp ho
          obtain ⟨q, kvs, rfl, hq, ekv, rl⟩ := ta.dKE
          obtain ⟨gt, lk⟩ := dget_of hq ekv rl tb ek
          rw [eo] at lk
          obtain ⟨w, hw, rw'⟩ := lk
          exact .inr (.inr ⟨q, w, rfl, by rw [hw] at gt; exact gt, fin w rw'⟩)
        · rename_i ks ds ts
          obtain ⟨kk, ek, eo⟩ := Option.bind_eq_some_iff.mp ho
          obtain ⟨q, kvs, rfl, hq, ekv, rl⟩ := ta.dTE
          obtain ⟨gt, lk⟩ := dgetT_of hq ekv rl tb ek
          rw [eo] at lk
          obtain ⟨w, hw, rw'⟩ := lk
          exact .inr (.inr ⟨q, w, rfl, by rw [hw] at gt; exact gt, fin w rw'⟩)
        · cases ho
end
end Bf

set_option Elab.async false
set_option linter.all false
set_option maxHeartbeats 1000000
/-! Writes to cells. -/
namespace Bf
open PySem L2
section
variable {g : Glo} {cs : List CA} {B N : List Addr} {H : Hp} {M : Mem}
theorem av_cons (c : CA) (cs : List CA) : av (c :: cs) = c.all ++ av cs := rfl
theorem mem_av : ∀ {cs : List CA} {i : Nat} {ca : CA} {a : Addr}, cs[i]? = some ca → a ∈ ca.all → a ∈ av cs := fun {cs i ca a} h ha =>
  List.mem_flatMap.mpr ⟨ca, List.mem_of_getElem? h, ha⟩
theorem av_apart : ∀ {cs : List CA} {i j : Nat} {c c' : CA} {a b : Addr}, (av cs).Nodup → cs[i]? = some c → cs[j]? = some c' → i ≠ j → a ∈ c.all → b ∈ c'.all → b ≠ a
  | [], i, _, _, _, _, _, _, h, _, _, _, _ => by simp at h
  | q :: cs, i, j, c, c', a, b, nd, h1, h2, ne, ha, hb => by
    rw [av_cons, List.nodup_append] at nd
    obtain ⟨n1, n2, n3⟩ := nd
    cases i with
    | zero =>
      cases j with
      | zero => exact absurd rfl ne
      | succ j =>
        have e : q = c := by simpa using h1
        subst e
        exact fun z => n3 a ha b (mem_av (by simpa using h2) hb) z.symm
    | succ i =>
      cases j with
      | zero =>
        have e : q = c' := by simpa using h2
        subst e
        exact n3 b hb a (mem_av (by simpa using h1) ha)
      | succ j => exact av_apart n2 (by simpa using h1) (by simpa using h2) (fun z => ne (congrArg _ z)) ha hb
theorem av_own : ∀ {cs : List CA} {i : Nat} {c : CA}, (av cs).Nodup → cs[i]? = some c → c.all.Nodup
  | [], i, _, _, h => by simp at h
  | q :: cs, i, c, nd, h => by
    rw [av_cons, List.nodup_append] at nd
    obtain ⟨n1, n2, n3⟩ := nd
    cases i with
    | zero =>
      have e : q = c := by simpa using h
      subst e; exact n1
    | succ i => exact av_own n2 (by simpa using h)
theorem keepW {a : Addr} {o : HO} (h : a ∈ N) : Keep H N (upd H a o) N := ⟨fun b u hb n => by rw [upd_ne (fun z => n (by rw [z]; exact h))]; exact hb, fun _ _ _ n => n⟩
theorem ext_write {a : Addr} {o : HO} (h : a ∈ av cs) : Ext cs [] H (upd H a o) := fun b u hb n => by
  rcases n with n | n
  · rw [upd_ne (fun z => n (by rw [z]; exact h))]; exact hb
  · cases n
theorem MR.write {i : Nat} {ca : CA} {a : Addr} {d' : D} {o : HO} (m : MR g cs B [] H M) (hi : cs[i]? = some ca) (ha : a ∈ ca.all) (hc : CellR g [] (upd H a o) (NV cs B) ca d') : MR g cs B [] (upd H a o) (M.set i d') := by
  have hav := mem_av hi ha
  refine ⟨by rw [List.length_set]; exact m.len, m.nd, fun j ca' d h1 h2 => ?_, fun b hb => ?_, m.dj⟩
  · by_cases hj : j = i
    · subst hj
      rw [hi] at h1; cases h1
      rw [List.getElem?_set_self (by have := (List.getElem?_eq_some_iff.mp hi).1; rw [m.len] at this; exact this)] at h2
      cases h2
      exact hc
    · rw [List.getElem?_set_ne (Ne.symm hj)] at h2
      refine (m.at_ j ca' d h1 h2).keep (keepW (List.mem_append_left _ hav)) fun b hb u hu => ?_
      rw [upd_ne (av_apart m.nd hi h1 (Ne.symm hj) ha hb)]
      exact hu
  · obtain ⟨vs, hv⟩ := m.bt b hb
    exact ⟨vs, by rw [upd_ne (fun z => m.dj b hb (by rw [z]; exact hav))]; exact hv⟩
theorem Fl.set {k : Fd} {q : Addr} {d' : D} {o : HO} (hq : q ∈ N) (hc : Cont g [] (upd H q o) N q d') : ∀ {ks : List Fd} {ds : List D} {vs : List V} {ow : List (Fd × Addr)}, Fl g [] H N ks ds vs ow → ks.Nodup → (ow.map (·.2)).Nodup → (k, q) ∈ ow →
    Fl g [] (upd H q o) N ks (put ks ds k d').2 vs ow
  | _, _, _, _, .nil, _, _, h => by cases h
  | _, _, _, _, .val (k := k') e r t, nd, nq, h => by
    have hk : ¬ k' = k := fun z => by
      subst z
      exact (List.nodup_cons.mp nd).1 (Fl.mem_own t h)
    simp only [put, if_neg hk]
    exact .val e (r.keep (keepW hq)) (Fl.set hq hc t (List.nodup_cons.mp nd).2 nq h)
  | _, _, _, _, .own (k := k') (q := q') e r t, nd, nq, h => by
    have nq' := List.nodup_cons.mp nq
    by_cases hk : k' = k
    · subst hk
      simp only [put, if_true]
      have eq : q = q' := by
        rcases List.mem_cons.mp h with h | h
        · cases h; rfl
        · exact absurd (Fl.mem_own t h) (List.nodup_cons.mp nd).1
      subst eq
      refine .own e hc (t.keep (keepW hq) fun p hp u hu => ?_)
      rw [upd_ne (fun z => nq'.1 (List.mem_map.mpr ⟨p, hp, z⟩))]
      exact hu
    · simp only [put, if_neg hk]
      have h' := (List.mem_cons.mp h).resolve_left (fun z => hk (by cases z; rfl))
      refine .own e (r.keep (keepW hq) fun u hu => ?_) (Fl.set hq hc t (List.nodup_cons.mp nd).2 nq'.2 h')
      rw [upd_ne (fun z => nq'.1 (List.mem_map.mpr ⟨(k, q), h', z.symm⟩))]
      exact hu
/-- a word that may be written: where its content stands, and what a write leaves -/
theorem wr_ok {w : W} {v : V} {d d' : D} {M' : Mem} (m : MR g cs B [] H M) (r : RW g cs H (NV cs B) w v) (hd : w.get M = some d) (hs : w.set M d' = some M') (hp : plainC d = true) :
    ∃ a, v = .ref a ∧ a ∈ av cs ∧ Cont g [] H (NV cs B) a d ∧ ∀ o, Cont g [] (upd H a o) (NV cs B) a d' → MR g cs B [] (upd H a o) M' ∧ Ext cs [] H (upd H a o) := by
  cases r with
  | v r => cases hs
  | n h1 h2 h3 => cases hs
  | c h =>
    rename_i i ca
    simp only [W.set] at hs
    split at hs
    · cases hs
      have q := m.at_ _ _ _ h hd
      cases q with
      | c q =>
        rename_i a
        refine ⟨a, rfl, mem_av h List.mem_cons_self, q, fun o hc => ⟨m.write h List.mem_cons_self (.c hc), ext_write (mem_av h List.mem_cons_self)⟩⟩
      | ins => cases hp
    · cases hs
  | f h hq =>
    rename_i i k ca q
    simp only [W.get] at hd
    simp only [W.set] at hs
    cases hM : M[i]? with
    | none => rw [hM] at hd; cases hd
    | some x =>
      rw [hM] at hd hs
      have z := m.at_ _ _ _ h hM
      cases z with
      | c z => cases hq
      | ins hc h1 e1 e2 f nd =>
        rename_i a dx c fvs ks xs vs ow
        simp only at hs hd
        split at hs
        · cases hs
          have nall := av_own m.nd h
          have hmem : q ∈ (CA.mk a ow).all := List.mem_cons_of_mem _ (List.mem_map.mpr ⟨_, hq, rfl⟩)
          have hqa : a ≠ q := fun z => (List.nodup_cons.mp nall).1 (by rw [z]; exact List.mem_map.mpr ⟨_, hq, rfl⟩)
          refine ⟨q, rfl, mem_av h hmem, Fl.look f nd hq hd, fun o hcn => ⟨?_, ext_write (mem_av h hmem)⟩⟩
          refine m.write h hmem (.ins hc (by rw [upd_ne hqa]; exact h1) e1 e2 ?_ nd)
          exact Fl.set (List.mem_append_left _ (mem_av h hmem)) hcn f nd (List.nodup_cons.mp nall).2 hq
        · cases hs
end
end Bf

set_option Elab.async false
set_option linter.all false
set_option maxHeartbeats 1000000
/-! Slices, fields, methods of built-in types. -/
namespace Bf
open PySem PySem.Spec PyProof.Rows L2
def notSup : Expr → Bool
  | .Call (.Name _ _) [] [] _ => false
  | _ => true
theorem base_ok {o : Expr} {m : PySem.Str} {env : PySem.Env} {w : Sem Value} (h : notSup o = true) : attributeBase o m env w = w := by
  cases o with
  | Call f as ks p =>
    cases f with
    | Name x q =>
      cases as with
      | nil =>
        cases ks with
        | nil => cases h
        | cons => rfl
      | cons => rfl
    | _ => rfl
  | _ => rfl
theorem one_star {x : Expr} {env : PySem.Env} (h : notStar x = true) : starEach [x] env = [(false, eval x env)] := star_cons h
section
variable {g : Glo} {X : Cx} {Wx : WX} {cl : Nat → List W → Mem → Rs W} {k : Nat} {pos : Pos} {a b c : E} {x y z : Expr} {es : Es} {xs : List Expr}
/-- the facts of the classes that the walk asks -/
structure GF (g : Glo) (X : Cx) : Prop where
  cls : ∀ c, g.has c = true → Cls X.K (g.cA c)
  na : ∀ c f, g.has c = true → okF c f = true → NoAttr X.K (g.cA c) f.nm
theorem mem_look {κ : Type} [DecidableEq κ] {f : κ} : ∀ {ks : List κ} {ds : List D} {d : D}, look ks ds f = some d → f ∈ ks
  | [], _, _, h => by cases h
  | k :: ks, [], _, h => by cases h
  | k :: ks, x :: xs, d, h => by
    by_cases hk : k = f
    · exact List.mem_cons.mpr (.inl hk.symm)
    · simp only [look, if_neg hk] at h
      exact List.mem_cons_of_mem _ (mem_look h)
theorem lk_nm : ∀ {fvs : List (PySem.Str × V)} {ks : List Fd} {ds : List D} {f : Fd} {d : D} {H : Hp} {N : List Addr}, fvs.map (·.1) = ks.map Fd.nm → Rl g H N ds (fvs.map (·.2)) → look ks ds f = some d → ∃ v, fvs.lookup f.nm = some v ∧ Rv g H N d v
  | [], [], _, _, _, _, _, _, .nil, h => by cases h
  | (s, v) :: fvs, [], _, _, _, _, _, e, _, _ => by simp at e
  | [], k :: ks, _, _, _, _, _, e, _, _ => by simp at e
  | (s, v) :: fvs, k :: ks, _, f, d, _, _, e, .cons (x := x) r t, h => by
    simp only [List.map_cons, List.cons.injEq] at e
    obtain ⟨e1, e2⟩ := e
    subst e1
    by_cases hk : k = f
    · subst hk
      simp only [look, if_true] at h
      cases h
      exact ⟨v, by rw [List.lookup_cons, beq_self_eq_true], r⟩
    · simp only [look, if_neg hk] at h
      obtain ⟨w, h1, h2⟩ := lk_nm e2 t h
      refine ⟨w, ?_, h2⟩
      rw [List.lookup_cons]
      have : (f.nm == k.nm) = false := by
        rw [beq_eq_false_iff_ne]
        exact fun z => hk (Fd.inj z.symm)
      rw [this]
      exact h1
theorem lk_fl : ∀ {fvs : List (PySem.Str × V)} {ks : List Fd} {ds : List D} {f : Fd} {L : List Addr} {H : Hp} {N : List Addr} {vs : List V} {ow : List (Fd × Addr)}, fvs.map (·.1) = ks.map Fd.nm → fvs.map (·.2) = vs → Fl g L H N ks ds vs ow → f ∈ ks →
    ∃ v d, fvs.lookup f.nm = some v ∧ look ks ds f = some d ∧ (if owned f = true then ∃ q, v = .ref q ∧ (f, q) ∈ ow else Rv g H N d v)
  | [], _, _, _, _, _, _, _, _, e, e2, .nil, h => by cases h
  | (s, v) :: fvs, [], _, _, _, _, _, _, _, e, _, _, _ => by simp at e
  | [], k :: ks, _, _, _, _, _, _, _, e, _, _, _ => by simp at e
  | (s, v) :: fvs, k :: ks, _, f, _, _, _, _, _, e, e2, fl, h => by
    simp only [List.map_cons, List.cons.injEq] at e
    obtain ⟨e1, e3⟩ := e
    subst e1
    have hd : ∀ {v' : V} {vs' : List V}, (v :: fvs.map (·.2)) = v' :: vs' → v = v' ∧ fvs.map (·.2) = vs' := fun z => by
      injection z with z1 z2; exact ⟨z1, z2⟩
    by_cases hk : k = f
    · subst hk
      have l1 : List.lookup k.nm ((k.nm, v) :: fvs) = some v := by rw [List.lookup_cons, beq_self_eq_true]
      cases fl with
      | val eo r t =>
        obtain ⟨z1, z2⟩ := hd e2
        subst z1
        refine ⟨v, _, l1, if_pos rfl, ?_⟩
        rw [if_neg (by rw [eo]; decide)]; exact r
      | own eo r t =>
        obtain ⟨z1, z2⟩ := hd e2
        subst z1
        refine ⟨_, _, l1, if_pos rfl, ?_⟩
        rw [if_pos eo]; exact ⟨_, rfl, List.mem_cons_self⟩
    · have hm : f ∈ ks := by
        rcases List.mem_cons.mp h with z | z
        · exact absurd z.symm hk
        · exact z
      have lne : (f.nm == k.nm) = false := by
        rw [beq_eq_false_iff_ne]
        exact fun z => hk (Fd.inj z.symm)
      cases fl with
      | val eo r t =>
        obtain ⟨z1, z2⟩ := hd e2
        obtain ⟨w, d, h1, h2, h3⟩ := lk_fl e3 z2 t hm
        exact ⟨w, d, by rw [List.lookup_cons, lne]; exact h1, (if_neg hk).trans h2, h3⟩
      | own eo r t =>
        obtain ⟨z1, z2⟩ := hd e2
        obtain ⟨w, d, h1, h2, h3⟩ := lk_fl e3 z2 t hm
        refine ⟨w, d, by rw [List.lookup_cons, lne]; exact h1, (if_neg hk).trans h2, ?_⟩
        by_cases ho : owned f = true
        · rw [if_pos ho] at h3 ⊢
          obtain ⟨q, hq, hm2⟩ := h3
          exact ⟨q, hq, List.mem_cons_of_mem _ hm2⟩
        · rw [if_neg ho] at h3 ⊢
          exact h3
theorem je_fld (F : GF g X) (G : Gd g k X) {f : Fd} (hb : notSup x = true) (ja : JE g X Wx cl a x) : JE g X Wx cl (.fld a f) (.Attribute x f.nm pos) := fun env M σ H cs B L Q hl he m post => by
  refine SemE.of (pe_fld pe_sem (base_ok hb)) ?_
  show SemE X x σ H fun v H1 => ∃ a C dx fs w, v = .ref a ∧ H1 a = some (.ins C dx fs) ∧ Cls X.K C ∧ NoAttr X.K C f.nm ∧ fs.lookup f.nm = some w ∧ Q w H1
  simp only [evE] at post
  refine (ja env M σ H cs B L _ hl he m (Post.bind (rel := RS g cs B L) backs_S post)).mono fun v H1 ⟨w, M1, e1, m1, r1, p1⟩ => ?_
  cases hf : fldW w f M1 with
  | none => rw [hf] at p1; exact p1.elim
  | some w' =>
    rw [hf] at p1
    have fin : ∀ {u : V}, RS g cs B L H1 H1 M1 w' u → Q u H1 := fun r => p1 _ H1 Ext.refl m1 r
    unfold fldW at hf
    split at hf
    · rename_i c ks ds
      split at hf
      · rename_i hok
        simp only [Option.map_eq_some_iff] at hf
        obtain ⟨d, hd, rfl⟩ := hf
        cases r1 with
        | v r =>
          cases r with
          | ins hc h n e e2 rl =>
            subst e2
            obtain ⟨u, hu, ru⟩ := lk_nm e rl hd
            exact ⟨_, _, _, _, u, rfl, h, F.cls c hc, F.na c f hc hok, hu, fin (.v ru)⟩
      · cases hf
    · rename_i i
      split at hf
      · rename_i c ks ds hM
        split at hf
        · rename_i hok
          cases r1 with
          | c h =>
            rename_i ca
            have z := m1.at_ _ _ _ h hM
            cases z with
            | c z => cases z
            | ins hc h1 ee ee2 fl nd =>
              split at hf
              · rename_i ho
                split at hf
                · rename_i hm
                  cases hf
                  obtain ⟨u, d, hu, hd, hq⟩ := lk_fl ee ee2 fl hm
                  rw [if_pos ho] at hq
                  obtain ⟨q, rfl, hq⟩ := hq
                  exact ⟨_, _, _, _, _, rfl, h1, F.cls c hc, F.na c f hc hok, hu, fin (.f h hq)⟩
                · cases hf
              · rename_i ho
                simp only [Option.map_eq_some_iff] at hf
                obtain ⟨d, hd, rfl⟩ := hf
                have hm : f ∈ ks := mem_look hd
                obtain ⟨u, d', hu, hd', hq⟩ := lk_fl ee ee2 fl hm
                rw [hd] at hd'; cases hd'
                rw [if_neg ho] at hq
                exact ⟨_, _, _, _, _, rfl, h1, F.cls c hc, F.na c f hc hok, hu, fin (.v hq)⟩
        · cases hf
      · cases hf
    · cases hf
end
end Bf

set_option Elab.async false
set_option linter.all false
set_option maxHeartbeats 1000000
/-! Slices, methods of built-in types. -/
namespace Bf
open PySem PySem.Spec PyProof.Rows L2
def SemP (X : Cx) (e : Option Expr) : TO := fun σ H Q => ∀ (pins : List (Addr × Obj)) (s : Shared), Inv X pins σ H s → wpAny (model X.prog X.w) X.A (evalPart e X.env) (fun u s' => ∃ o H', Inv X pins σ H' s' ∧ IsPart u o ∧ Q o H') X.xe s
theorem po_sem {X : Cx} {e : Option Expr} : PO X e (SemP X e) := ⟨fun pins s σ H Q I h => h pins s I⟩
theorem SemP.of {X : Cx} {e : Option Expr} {t : TO} {σ : L2.St} {H : Hp} {Q : Option Int → Hp → Prop} (h : PO X e t) (q : t σ H Q) : SemP X e σ H Q := fun pins s I => h.run pins s σ H Q I q
theorem SemP.mono {X : Cx} {e : Option Expr} {σ : L2.St} {H : Hp} {Q Q' : Option Int → Hp → Prop} (h : SemP X e σ H Q) (q : ∀ v H', Q v H' → Q' v H') : SemP X e σ H Q' := fun pins s I => thn (h pins s I) fun u s1 ⟨v, H1, I1, r, z⟩ => ⟨v, H1, I1, r, q v H1 z⟩
abbrev relP : Hp → Hp → Mem → Option Int → Option Int → Prop := fun _ _ _ a b => a = b
section
variable (g : Glo) (X : Cx) (Wx : WX) (cl : Nat → List W → Mem → Rs W)
def JO (ir : OE) (e : Option Expr) : Prop := ∀ (env : Env) (M : Mem) (σ : L2.St) (H : Hp) (cs : List CA) (B : List Addr) (Q : Option Int → Hp → Prop), ER g cs H (NV cs B) env σ → MR g cs B [] H M →
  Post g cs B [] Wx σ relP H (evOE cl ir env M) Q → SemP X e σ H Q
end
section
variable {g : Glo} {X : Cx} {Wx : WX} {cl : Nat → List W → Mem → Rs W} {k : Nat} {pos : Pos} {a b c : E} {x y z : Expr} {es : Es} {xs : List Expr} {cs : List CA} {B L : List Addr}
theorem backs_P : Backs g cs B L relP := ⟨fun _ _ _ _ _ _ _ _ _ h => h⟩
theorem noL {p : Bool} (hl : L = [] ∨ p = true) (h : p = false) : L = [] := by
  rcases hl with z | z
  · exact z
  · rw [h] at z; cases z
theorem jo_no : JO g X Wx cl .no none := fun env M σ H cs B Q he m post => SemP.of po_none (post _ H Ext.refl m rfl)
theorem jo_so (ja : JE g X Wx cl a x) : JO g X Wx cl (.so a) (some x) := fun env M σ H cs B Q he m post => by
  refine SemP.of (po_some pe_sem) ?_
  show SemE X x σ H fun v H1 => ∃ i, v = .int i ∧ Q (some i) H1
  simp only [evOE] at post
  refine (ja env M σ H cs B [] _ (.inl rfl) he m (Post.bind (rel := RS g cs B []) backs_P post)).mono fun v H1 ⟨w, M1, e1, m1, r1, p1⟩ => ?_
  cases hw : w.get M1 with
  | none => rw [hw] at p1; exact p1.elim
  | some d =>
    rw [hw] at p1
    cases d with
    | int i => exact ⟨i, ((r1.rw m).top m1 hw).int, p1 _ _ Ext.refl m1 rfl⟩
    | _ => exact p1.elim
theorem je_sl {lo hi : OE} {l u : Option Expr} {p2 : Pos} (ja : JE g X Wx cl a x) (jl : JO g X Wx cl lo l) (jh : JO g X Wx cl hi u) : JE g X Wx cl (.sl a lo hi) (.Subscript x (.Slice l u none p2) pos) := fun env M σ H cs B L Q hl he m post => by
  obtain rfl := noL hl rfl
  refine SemE.of (pe_slice (sl_list.or sl_tupA) pe_sem po_sem po_sem) ?_
  simp only [evE] at post
  refine (ja env M σ H cs B [] _ (.inl rfl) he m (Post.bind (rel := RS g cs B []) backs_S post)).mono fun v H1 ⟨w, M1, e1, m1, r1, p1⟩ => ?_
  refine (jl env M1 σ H1 cs B _ (he.keep e1.keep) m1 (Post.bind (rel := relP) backs_S p1)).mono fun lo' H2 ⟨i, M2, e2, m2, r2, p2⟩ => ?_
  obtain rfl : i = lo' := r2
  refine (jh env M2 σ H2 cs B _ ((he.keep e1.keep).keep e2.keep) m2 (Post.bind (rel := relP) backs_S p2)).mono fun hi' H3 ⟨j, M3, e3, m3, r3, p3⟩ => ?_
  obtain rfl : j = hi' := r3
  cases hw : w.get M3 with
  | none => rw [hw] at p3; exact p3.elim
  | some d =>
    rw [hw] at p3
    have tp := (((r1.rw m).keep e2.keep).keep e3.keep).top m3 hw
    cases d with
    | lst ds =>
      obtain ⟨q, us, rfl, hq, rl⟩ := tp.lstE
      refine .inl ⟨q, us, rfl, SqL.of hq, fun p hp => p3 _ _ (Ext.upd hp) (m3.fresh hp) (.v (.lst upd_same (not_NV m3 hp) ?_))⟩
      unfold cutV cutD
      rw [rl.length]
      exact Rl.take _ (Rl.drop _ (rl.keep (keepN hp)))
    | tup ds =>
      obtain ⟨q, us, rfl, hq, hn, rl⟩ := tp.tupE
      refine .inr ⟨q, us, rfl, SqT.of hq, fun hw => p3 _ _ Ext.refl m3 (.v (.tup hq hn ?_)), fun _ p hp => p3 _ _ (Ext.upd hp) (m3.fresh hp) (.v (.tup upd_same (not_NV m3 hp) ?_))⟩
      · unfold cutD
        rw [rl.length] at hw
        rw [hw.1, hw.2, List.drop_zero, Nat.sub_zero, List.take_length]
        exact rl
      · unfold cutV cutD
        rw [rl.length]
        exact Rl.take _ (Rl.drop _ (rl.keep (keepN hp)))
    | _ => exact p3.elim
theorem je_rev {j : Nat} {p1 p2 p3 : Pos} (ja : JE g X Wx cl a x) : JE g X Wx cl (.rev a) (.Subscript x (.Slice none none (some (.UnaryOp .USub (.Constant (.int 1) j p1) p2)) p3) pos) := fun env M σ H cs B L Q hl he m post => by
  obtain rfl := noL hl rfl
  refine SemE.of (pe_revL pe_sem) ?_
  simp only [evE, rd] at post
  refine (ja env M σ H cs B [] _ (.inl rfl) he m (Post.bind (rel := RS g cs B []) backs_S post)).mono fun v H1 ⟨w, M1, e1, m1, r1, p1⟩ => ?_
  cases hw : w.get M1 with
  | none => rw [hw] at p1; exact p1.elim
  | some d =>
    rw [hw] at p1
    have tp := (r1.rw m).top m1 hw
    cases d with
    | lst ds =>
      obtain ⟨q, us, rfl, hq, rl⟩ := tp.lstE
      exact ⟨q, us, rfl, SqL.of hq, fun p hp => p1 _ _ (Ext.upd hp) (m1.fresh hp) (.v (.lst upd_same (not_NV m1 hp) ((rl.keep (keepN hp)).reverse)))⟩
    | _ => exact p1.elim
theorem je_neg (ja : JE g X Wx cl a x) : JE g X Wx cl (.neg a) (.UnaryOp .USub x pos) := fun env M σ H cs B L Q hl he m post => by
  refine SemE.of (pe_un un_neg pe_sem) ?_
  simp only [evE, rd] at post
  refine (ja env M σ H cs B L _ hl he m (Post.bind (rel := RS g cs B L) backs_S post)).mono fun v H1 ⟨w, M1, e1, m1, r1, p1⟩ => ?_
  cases hw : w.get M1 with
  | none => rw [hw] at p1; exact p1.elim
  | some d =>
    rw [hw] at p1
    cases d with
    | int i => exact ⟨i, ((r1.rw m).top m1 hw).int, p1 _ _ Ext.refl m1 (.v (.int _))⟩
    | _ => exact p1.elim
/-! ### dict.get -/
theorem asD_rv {H : Hp} {N : List Addr} {w : Bf.W} {v : V} {d : D} (h : RW g cs H N w v) (e : asD w = some d) : Rv g H N d v := by
  cases h with
  | v r => cases e; exact r
  | n h1 h2 h3 => cases e; exact .lst h1 h2 h3
  | c => cases e
  | f => cases e
theorem m2_of {o e f : Expr} {nm : PySem.Str} {apos cpos : Pos} (ho : notSup o = true) (he : notStar e = true) (hf : notStar f = true) (hline : (apos.endLine == cpos.line) = true) : M2 X o nm apos e f cpos := by
  have t : starEach [e, f] X.env = [(false, eval e X.env), (false, eval f X.env)] := by
    rw [star_cons he, star_cons hf]; rfl
  exact ⟨base_ok ho, by rw [t]; rfl, hline, by rw [t]; rfl⟩
theorem je_get2 (G : Gd g k X) {apos cpos : Pos} (h1 : notSup x = true) (h2 : notStar y = true) (h3 : notStar z = true) (h4 : (apos.endLine == cpos.line) = true) (ja : JE g X Wx cl a x) (jb : JE g X Wx cl b y) (jc : JE g X Wx cl c z) :
    JE g X Wx cl (.get2 a b c) (.Call (.Attribute x "get" apos) [y, z] [] cpos) := fun env M σ H cs B L Q hl he m post => by
  obtain rfl := noL hl rfl
  have hu : X.A.units + 1 < cLine := Nat.lt_of_le_of_lt (by omega) G.hu
  refine SemE.of (pe_dget2 hu pe_sem pe_sem pe_sem (m2_of h1 h2 h3 h4)) ?_
  simp only [evE, rv] at post
  refine (ja env M σ H cs B [] _ (.inl rfl) he m (Post.bind (rel := RS g cs B []) backs_S post)).mono fun v H1 ⟨w, M1, e1, m1, r1, p1⟩ => ?_
  cases hw : w.get M1 with
  | none => rw [hw] at p1; exact p1.elim
  | some d0 =>
    rw [hw] at p1
    have tp := (r1.rw m).top m1 hw
    have hd : ∃ q, v = .ref q ∧ IsD H1 q := by
      cases d0 with
      | dK => obtain ⟨q, kvs, rfl, h, _⟩ := tp.dKE; exact ⟨q, rfl, .inl ⟨_, h⟩⟩
      | dT => obtain ⟨q, kvs, rfl, h, _⟩ := tp.dTE; exact ⟨q, rfl, .inr ⟨_, h⟩⟩
      | _ => exact p1.elim
    have p1' : Post g cs B [] Wx σ (RS g cs B []) H1 ((evE cl b env M1).bind fun w' M2 => match asD w' with
        | some y => (evE cl c env M2).bind fun w'' M3 => match asD w'' with
          | some z => (ofO ((w.get M3).bind fun q => getD2 q y z) M3).bind fun z M4 => .ok (.v z) M4
          | none => .no
        | none => .no) Q := by
      cases d0 with
      | dK => exact p1
      | dT => exact p1
      | _ => exact p1.elim
    obtain ⟨q, rfl, hd⟩ := hd
    refine ⟨q, rfl, hd, ?_⟩
    refine (jb env M1 σ H1 cs B [] _ (.inl rfl) (he.keep e1.keep) m1 (Post.bind (rel := RS g cs B []) backs_S p1')).mono fun u H2 ⟨wb, M2, e2, m2, r2, p2⟩ => ?_
    cases hb : asD wb with
    | none => rw [hb] at p2; exact p2.elim
    | some yd =>
      rw [hb] at p2
      refine (jc env M2 σ H2 cs B [] _ (.inl rfl) ((he.keep e1.keep).keep e2.keep) m2 (Post.bind (rel := RS g cs B []) backs_S p2)).mono fun t H3 ⟨wc, M3, e3, m3, r3, p3⟩ => ?_
      cases hc : asD wc with
      | none => rw [hc] at p3; exact p3.elim
      | some zd =>
        simp only [hc] at p3
        cases hg : (w.get M3).bind fun q => getD2 q yd zd with
        | none => rw [hg] at p3; exact p3.elim
        | some rr =>
          rw [hg] at p3
          obtain ⟨dd, hdd, hgd⟩ := Option.bind_eq_some_iff.mp hg
          have t0 := (((r1.rw m).keep e2.keep).keep e3.keep).top m3 hdd
          have tb : Rv g H3 (NV cs B) yd u := ((asD_rv (r2.rw m1) hb).keep e3.keep)
          have tc : Rv g H3 (NV cs B) zd t := asD_rv (r3.rw m2) hc
          have fin : ∀ w, Rv g H3 (NV cs B) rr w → Q w H3 := fun w r => p3 w H3 Ext.refl m3 (.v r)
          unfold getD2 at hgd
          split at hgd
          · obtain ⟨kk, ek, rfl⟩ := Option.map_eq_some_iff.mp hgd
            obtain ⟨q', kvs, eq, hq, ekv, rl⟩ := t0.dKE
            cases eq
            obtain ⟨gt, lk⟩ := dget_of hq ekv rl (.v tb) ek
            refine ⟨_, gt, fin _ ?_⟩
            revert lk
            cases look _ _ kk with
            | none => intro lk; rw [lk]; exact tc
            | some d' => rintro ⟨w', h1, h2⟩; rw [h1]; exact h2
          · obtain ⟨kk, ek, rfl⟩ := Option.map_eq_some_iff.mp hgd
            obtain ⟨q', kvs, eq, hq, ekv, rl⟩ := t0.dTE
            cases eq
            obtain ⟨gt, lk⟩ := dgetT_of hq ekv rl (.v tb) ek
            refine ⟨_, gt, fin _ ?_⟩
            revert lk
            cases look _ _ kk with
            | none => intro lk; rw [lk]; exact tc
            | some d' => rintro ⟨w', h1, h2⟩; rw [h1]; exact h2
          · cases hgd
/-! ### str.join, str.split -/
theorem je_join {apos : Pos} (h1 : notSup x = true) (h2 : notStar y = true) (h4 : (apos.endLine == pos.line) = true) (ja : JE g X Wx cl a x) (jb : JE g X Wx cl b y) :
    JE g X Wx cl (.join a b) (.Call (.Attribute x "join" apos) [y] [] pos) := fun env M σ H cs B L Q hl he m post => by
  obtain rfl := noL hl rfl
  refine SemE.of (pe_join pe_sem pe_sem (one_star h2) (base_ok h1) h4) ?_
  simp only [evE, rd] at post
  refine (ja env M σ H cs B [] _ (.inl rfl) he m (Post.bind (rel := RS g cs B []) backs_S post)).mono fun v H1 ⟨w, M1, e1, m1, r1, p1⟩ => ?_
  cases hw : w.get M1 with
  | none => rw [hw] at p1; exact p1.elim
  | some d0 =>
    rw [hw] at p1
    cases d0 with
    | str s0 =>
      obtain rfl := ((r1.rw m).top m1 hw).str
      refine ⟨⟨_, rfl⟩, ?_⟩
      refine (jb env M1 σ H1 cs B [] _ (.inl rfl) (he.keep e1.keep) m1 (Post.bind (rel := RS g cs B []) backs_S p1)).mono fun u H2 ⟨wb, M2, e2, m2, r2, p2⟩ => ?_
      cases hb : wb.get M2 with
      | none => rw [hb] at p2; exact p2.elim
      | some yd =>
        simp only [hb] at p2
        cases hj : joinD s0 yd with
        | none => rw [hj] at p2; exact p2.elim
        | some z =>
          rw [hj] at p2
          cases yd with
          | lst ys =>
            obtain ⟨q, us, rfl, hq, rl⟩ := ((r2.rw m1).top m2 hb).lstE
            obtain ⟨zs, ez, hz⟩ := Option.bind_eq_some_iff.mp hj
            split at hz
            · rename_i hle
              cases hz
              obtain rfl := rl.toStrs ez
              exact ⟨s0, q, zs, rfl, rfl, .inl (SqL.of hq), hle, p2 _ _ Ext.refl m2 (.v (.str _))⟩
            · cases hz
          | _ => cases hj
    | _ => exact p1.elim
theorem Rl.strs : ∀ (ns : List PySem.Str) {H : Hp} {N : List Addr}, Rl g H N (ns.map D.str) (ns.map V.str)
  | [], _, _ => .nil
  | n :: ns, _, _ => .cons (.str n) (Rl.strs ns)
theorem je_split {apos : Pos} (h1 : notSup x = true) (h2 : notStar y = true) (h4 : (apos.endLine == pos.line) = true) (ja : JE g X Wx cl a x) (jb : JE g X Wx cl b y) :
    JE g X Wx cl (.split a b) (.Call (.Attribute x "split" apos) [y] [] pos) := fun env M σ H cs B L Q hl he m post => by
  obtain rfl := noL hl rfl
  refine SemE.of (pe_split pe_sem pe_sem (one_star h2) (base_ok h1) h4) ?_
  simp only [evE, rd] at post
  refine (ja env M σ H cs B [] _ (.inl rfl) he m (Post.bind (rel := RS g cs B []) backs_S post)).mono fun v H1 ⟨w, M1, e1, m1, r1, p1⟩ => ?_
  cases hw : w.get M1 with
  | none => rw [hw] at p1; exact p1.elim
  | some d0 =>
    rw [hw] at p1
    cases d0 with
    | str s0 =>
      obtain rfl := ((r1.rw m).top m1 hw).str
      refine ⟨⟨_, rfl⟩, ?_⟩
      refine (jb env M1 σ H1 cs B [] _ (.inl rfl) (he.keep e1.keep) m1 (Post.bind (rel := RS g cs B []) backs_S p1)).mono fun u H2 ⟨wb, M2, e2, m2, r2, p2⟩ => ?_
      cases hb : wb.get M2 with
      | none => rw [hb] at p2; exact p2.elim
      | some yd =>
        simp only [hb] at p2
        cases hj : splitD s0 yd with
        | none => rw [hj] at p2; exact p2.elim
        | some z =>
          rw [hj] at p2
          cases yd with
          | str t0 =>
            obtain rfl := ((r2.rw m1).top m2 hb).str
            simp only [splitD] at hj
            split at hj
            · rename_i hle
              cases hj
              exact ⟨s0, t0, rfl, rfl, hle.1, sz_lim hle.2, fun p hp => p2 _ _ (Ext.upd hp) (m2.fresh hp) (.v (.lst upd_same (not_NV m2 hp) (Rl.strs _)))⟩
            · cases hj
          | _ => cases hj
    | _ => exact p1.elim
/-! ### list.pop -/
theorem je_pop {apos : Pos} (h1 : notSup x = true) (h4 : (apos.endLine == pos.line) = true) (ja : JE g X Wx cl a x) :
    JE g X Wx cl (.pop a) (.Call (.Attribute x "pop" apos) [] [] pos) := fun env M σ H cs B L Q hl he m post => by
  obtain rfl := noL hl rfl
  refine SemE.of (pe_bm0 PySem.F.plainAttrs_list PySem.F.slot_list_pop PySem.F.type_list_pop mt_pop pe_sem (base_ok h1) h4) ?_
  simp only [evE, rd] at post
  refine (ja env M σ H cs B [] _ (.inl rfl) he m (Post.bind (rel := RS g cs B []) backs_S post)).mono fun v H1 ⟨w, M1, e1, m1, r1, p1⟩ => ?_
  cases hw : w.get M1 with
  | none => rw [hw] at p1; exact p1.elim
  | some d0 =>
    rw [hw] at p1
    cases d0 with
    | lst ds =>
      simp only [popW, popL] at p1
      cases hy : ds[ds.length - 1]? with
      | none => rw [hy] at p1; exact p1.elim
      | some y =>
        rw [hy] at p1
        simp only [Option.map_some] at p1
        cases hs : w.set M1 (.lst ds.dropLast) with
        | none => rw [hs] at p1; exact p1.elim
        | some M2 =>
          rw [hs] at p1
          obtain ⟨q, rfl, hav, hc, wr⟩ := wr_ok m1 (r1.rw m) hw hs rfl
          cases hc with
          | lst hq rl =>
            rename_i us
            obtain ⟨u, hu, ru⟩ := rl.get hy
            rw [← rl.length] at hu
            refine ⟨.inl ⟨rfl, us, SqL.of hq⟩, q, us, u, rfl, rfl, hq, hu, ?_⟩
            have hk : Keep H1 (NV cs B) (upd H1 q (.lst us.dropLast)) (NV cs B) := keepW (List.mem_append_left _ hav)
            obtain ⟨m2, e2⟩ := wr (.lst us.dropLast) (.lst upd_same ((rl.keep hk).dropLast))
            exact p1 _ _ e2 m2 (.v (ru.keep hk))
    | _ => exact p1.elim
theorem je_popAt {apos : Pos} (h1 : notSup x = true) (h2 : notStar y = true) (h4 : (apos.endLine == pos.line) = true) (ja : JE g X Wx cl a x) (jb : JE g X Wx cl b y) :
    JE g X Wx cl (.popAt a b) (.Call (.Attribute x "pop" apos) [y] [] pos) := fun env M σ H cs B L Q hl he m post => by
  obtain rfl := noL hl rfl
  refine SemE.of (pe_bm PySem.F.plainAttrs_list PySem.F.slot_list_pop PySem.F.type_list_pop mt_popAt pe_sem (pa_cons pe_sem pa_nil (one_star h2)) (base_ok h1) (by rw [one_star h2]; rfl) h4 (one_star h2) rfl) ?_
  simp only [evE, rd] at post
  refine (ja env M σ H cs B [] _ (.inl rfl) he m (Post.bind (rel := RS g cs B []) backs_S post)).mono fun v H1 ⟨w, M1, e1, m1, r1, p1⟩ => ?_
  cases hw : w.get M1 with
  | none => rw [hw] at p1; exact p1.elim
  | some d0 =>
    rw [hw] at p1
    cases d0 with
    | lst ds0 =>
      obtain ⟨q0, us0, rfl, hq0, _⟩ := ((r1.rw m).top m1 hw).lstE
      refine ⟨.inl ⟨rfl, us0, SqL.of hq0⟩, ?_⟩
      refine (jb env M1 σ H1 cs B [] _ (.inl rfl) (he.keep e1.keep) m1 (Post.bind (rel := RS g cs B []) backs_S p1)).mono fun u H2 ⟨wb, M2, e2, m2, r2, p2⟩ => ?_
      cases hb : wb.get M2 with
      | none => rw [hb] at p2; exact p2.elim
      | some yd =>
        simp only [hb] at p2
        cases hw2 : w.get M2 with
        | none => rw [hw2] at p2; exact p2.elim
        | some d2 =>
          rw [hw2] at p2
          cases hp : popAtL d2 yd with
          | none => simp only [hp, popW] at p2; exact p2.elim
          | some pr =>
            simp only [hp, popW] at p2
            cases hs : w.set M2 (.lst pr.2) with
            | none => rw [hs] at p2; exact p2.elim
            | some M3 =>
              rw [hs] at p2
              unfold popAtL at hp
              split at hp
              · rename_i ds kk
                split at hp
                · rename_i hk0
                  obtain ⟨y, hy, rfl⟩ := Option.map_eq_some_iff.mp hp
                  obtain rfl := ((r2.rw m1).top m2 hb).int
                  obtain ⟨q, eq, hav, hc, wr⟩ := wr_ok m2 ((r1.rw m).keep e2.keep) hw2 hs rfl
                  cases eq
                  cases hc with
                  | lst hq rl =>
                    rename_i us
                    obtain ⟨t, ht, rt⟩ := rl.get hy
                    have hk : Keep H2 (NV cs B) (upd H2 q0 (.lst (us.eraseIdx kk.toNat))) (NV cs B) := keepW (List.mem_append_left _ hav)
                    obtain ⟨m3, e3⟩ := wr (.lst (us.eraseIdx kk.toNat)) (.lst upd_same ((rl.keep hk).erase _))
                    refine ⟨q0, us, kk, kk.toNat, t, rfl, rfl, hq, by omega, by have := hk0.2.2; simp only [LIM] at this; omega, ?_, ht, p2 _ _ e3 m3 (.v (rt.keep hk))⟩
                    rw [rl.length]
                    unfold seqIndex?
                    have h0 : ¬ kk < 0 := by omega
                    have hb : (decide (0 ≤ kk) && decide (kk < (ds.length : Int))) = true := by
                      rw [decide_eq_true hk0.1, decide_eq_true hk0.2.1]; rfl
                    simp only [if_neg h0]
                    rw [if_pos hb]
                · cases hp
              · cases hp
    | _ => exact p1.elim
end
end Bf

set_option Elab.async false
set_option linter.all false
set_option maxHeartbeats 1000000
set_option maxRecDepth 10000
/-! Built-in functions. -/
namespace Bf
open PySem PySem.Spec PyProof.Rows L2
def SemC (X : Cx) (f : Value) : List V → Hp → VK → Prop := fun vs H Q => ∀ (pins : List (Addr × Obj)) (s : Shared) (σ : L2.St) (us : List Value), Inv X pins σ H s → Vals vs us → wpAny (model X.prog X.w) X.A (call f us) (EP X pins σ Q) X.xe s
theorem cr_sem {X : Cx} {f : Value} : CallR X f (SemC X f) := fun pins s σ H vs us Q I r h => h pins s σ us I r
theorem SemC.of {X : Cx} {f : Value} {r : List V → Hp → VK → Prop} {vs : List V} {H : Hp} {Q : VK} (h : CallR X f r) (q : r vs H Q) : SemC X f vs H Q := fun pins s σ us I rs => h pins s σ H vs us Q I rs q
inductive Tops (g : Glo) (H : Hp) (N : List Addr) : List D → List V → Prop
  | nil : Tops g H N [] []
  | cons {d : D} {v : V} {ds : List D} {vs : List V} : Top g H N d v → Tops g H N ds vs → Tops g H N (d :: ds) (v :: vs)
def BI.f : BI → Value
  | .len => .builtin "len" | .sorted => .builtin "sorted" | .sortSum => .builtin "sorted" | .sortSet => .builtin "sorted" | .list => .type "list" | .tuple => .type "tuple" | .all => .builtin "all" | .any => .builtin "any"
  | .abs => .builtin "abs" | .int => .type "int" | .bool => .type "bool" | .str => .type "str" | .max => .builtin "max" | .min => .builtin "min" | .isi _ => .builtin "isinstance" | .dict => .type "dict" | .rng => .type "list"
def Ty.nm : Ty → String
  | .int => "int" | .bool => "bool" | .str => "str" | .tuple => "tuple" | .list => "list" | .dict => "dict"
section
variable {g : Glo} {X : Cx} {H : Hp} {N : List Addr}
/-! ### sorted -/
theorem each_zip {P : Value → D × V → Prop} : ∀ {ds : List D} {vs : List V} {its : List Value}, Rl g H N ds vs → Vals vs its → (∀ d v u, d ∈ ds → Rv g H N d v → RelV v u → P u (d, v)) → W.EachIs P its (ds.zip vs)
  | _, _, _, .nil, .nil, _ => .nil
  | _, _, _, .cons r t, .cons x y, h => .cons (h _ _ _ List.mem_cons_self r x) (each_zip t y fun d v u hd => h d v u (List.mem_cons_of_mem _ hd))
theorem each_vals : ∀ {zs : List (D × V)} {out : List Value}, W.EachIs (fun u z => RelV z.2 u) out zs → Vals (zs.map (·.2)) out
  | _, _, .nil => .nil
  | _, _, .cons h t => .cons h (each_vals t)
theorem rl_zip : ∀ {ds : List D} {vs : List V}, Rl g H N ds vs → ∀ z ∈ ds.zip vs, Rv g H N z.1 z.2
  | _, _, .nil => fun z hz => by cases hz
  | _, _, .cons r t => fun z hz => by
    rcases List.mem_cons.mp hz with e | hz
    · subst e; exact r
    · exact rl_zip t z hz
theorem rl_of_zip : ∀ {zs : List (D × V)}, (∀ z ∈ zs, Rv g H N z.1 z.2) → Rl g H N (zs.map (·.1)) (zs.map (·.2))
  | [], _ => .nil
  | z :: zs, h => .cons (h z List.mem_cons_self) (rl_of_zip fun z hz => h z (List.mem_cons_of_mem _ hz))
theorem pyD_of {d : D} {n : Nat} (h : fits n d = true) : toPy d = some (pyD d) ∧ (pyD d).depth ≤ n := by
  obtain ⟨p, e, _, z⟩ := fits_py n d h
  have : pyD d = p := by unfold pyD; rw [e]; rfl
  rw [this]; exact ⟨e, z⟩
theorem noTup_py {d : D} (h : noTup d = true) (e : toPy d = some (pyD d)) : pyD d ≠ .none ∧ ∀ xs, pyD d ≠ .tuple xs := by
  cases d with
  | tup xs => cases h
  | non => cases h
  | lst xs =>
    simp only [toPy, Option.map_eq_some_iff] at e
    obtain ⟨ps, e1, e2⟩ := e
    rw [← e2]
    exact ⟨fun z => (by cases z), fun _ z => (by cases z)⟩
  | bl b => exact ⟨fun z => (by cases (show PyData.bool b = .none from z)), fun xs z => (by cases (show PyData.bool b = .tuple xs from z))⟩
  | int b => exact ⟨fun z => (by cases (show PyData.int b = .none from z)), fun xs z => (by cases (show PyData.int b = .tuple xs from z))⟩
  | str b => exact ⟨fun z => (by cases (show PyData.str b = .none from z)), fun xs z => (by cases (show PyData.str b = .tuple xs from z))⟩
  | dK => cases e
  | dT => cases e
  | ins => cases e
  | scr => cases e
theorem srt_ok (hK : X.K = g.K) (hu : X.A.units + 64 < cLine) {a : Addr} {vs : List V} {ds : List D} {Q : VK} (hq : H a = some (.lst vs)) (r : Rl g H N ds vs) (hs : sortable ds = true)
    (q : ∀ p us, H p = none → Rl g H N (ds.mergeSort (W.dataLe false pyD)) us → Q (.ref p) (upd H p (.lst us))) : SemC X (.builtin "sorted") [.ref a] H Q := by
  intro pins s σ ws I rs
  rw [Vals.ref1 rs]
  obtain ⟨its, rv, hl, hz⟩ := I.list (SqL.of hq)
  unfold sortable at hs
  rw [Bool.and_eq_true, Bool.and_eq_true] at hs
  obtain ⟨⟨h1, h2⟩, h3⟩ := hs
  have hfit : ∀ d ∈ ds, toPy d = some (pyD d) ∧ (pyD d).depth ≤ 20 := fun d hd => pyD_of (List.all_eq_true.mp h1 d hd)
  have zl : (ds.zip vs).length = ds.length := by rw [List.length_zip, r.length, Nat.min_self]
  have zf : (ds.zip vs).map (·.1) = ds := List.map_fst_zip (by rw [r.length]; exact Nat.le_refl _)
  have mem : ∀ z ∈ ds.zip vs, z.1 ∈ ds := fun z hz => by
    have : z.1 ∈ (ds.zip vs).map (·.1) := List.mem_map.mpr ⟨z, hz, rfl⟩
    rw [zf] at this; exact this
  refine W.sorted_data (vs := its) (bs := ds.zip vs) (enc := fun z => pyD z.1) (R := fun u z => RelV z.2 u) hl.isList (each_zip r rv fun d v u _ _ h => h) (each_zip r rv fun d v u hd rd h => ?_) ?_ ?_ ?_ ?_ fun out ho eo => ?_
  · exact Dp.reads I (pyD d) v u (by rw [hK]; exact rd.dp (hfit d hd).1) h
  · intro x hx y hy
    obtain ⟨z, hz, rfl⟩ := List.mem_map.mp hx
    obtain ⟨t, ht, rfl⟩ := List.mem_map.mp hy
    exact List.all_eq_true.mp (List.all_eq_true.mp h2 _ (mem z hz)) _ (mem t ht)
  · rw [Bool.or_eq_true] at h3
    rcases h3 with h3 | h3
    · refine .inl fun x hx => ?_
      obtain ⟨z, hz, rfl⟩ := List.mem_map.mp hx
      have h4 := List.all_eq_true.mp h3 _ (mem z hz)
      have h5 := (hfit _ (mem z hz)).1
      revert h4 h5
      cases z.1 with
      | tup xs =>
        cases xs with
        | nil => intro h4; cases h4
        | cons x xs =>
          intro _ h5
          simp only [toPy, Option.map_eq_some_iff] at h5
          obtain ⟨ps, e1, e2⟩ := h5
          obtain ⟨p, r, _, _, rfl⟩ := toPys_cons e1
          exact ⟨p, r, e2.symm⟩
      | _ => intro h4; cases h4
    · refine .inr fun x hx => ?_
      obtain ⟨z, hz, rfl⟩ := List.mem_map.mp hx
      exact noTup_py (List.all_eq_true.mp h3 _ (mem z hz)) (hfit _ (mem z hz)).1
  · rw [zl, ← r.length]; exact hz
  · intro z hz
    have := (hfit _ (mem z hz)).2
    exact Nat.lt_of_le_of_lt (by omega) hu
  · obtain ⟨ep, he'⟩ := PyProof.Rows.sortedAll_at s.heap its out.toArray
    have hn := I.hok.fresh (a := s.heap.objs.size + 1) (Nat.le_succ _)
    have perm := List.mergeSort_perm (ds.zip vs) (W.dataLe false fun z => pyD z.1)
    have el : ((ds.zip vs).mergeSort (W.dataLe false fun z => pyD z.1)).map (·.1) = ds.mergeSort (W.dataLe false pyD) := by
      refine (List.map_mergeSort (r := W.dataLe false fun z : D × V => pyD z.1) (s := W.dataLe false pyD) (f := fun z : D × V => z.1) (fun a _ b _ => rfl)).trans ?_
      rw [zf]
    have rl := rl_of_zip (g := g) (H := H) (N := N) (zs := (ds.zip vs).mergeSort (W.dataLe false fun z => pyD z.1)) fun z hz => rl_zip r z (perm.mem_iff.mp hz)
    rw [el] at rl
    have hlen : (((ds.zip vs).mergeSort (W.dataLe false fun z => pyD z.1)).map (·.2)).length ≤ sizeLine := by
      rw [List.length_map, perm.length_eq, zl, ← r.length]; exact hz
    exact ⟨.ref _, upd H (s.heap.objs.size + 1) (.lst _), I.laid (t' := s.toks) (fun _ _ => PyProof.Rows.sortedAll_old) (Nat.le_succ _) ⟨hlen, out, ep, each_vals eo, he'⟩, rfl, q _ _ hn rl⟩
/-! ### max, min of ints -/
theorem maxI_mem : ∀ (xs : List Int) (m : Int), maxI m xs ∈ m :: xs
  | [], m => List.mem_cons_self
  | x :: xs, m => by
    have h := maxI_mem xs (if x > m then x else m)
    show maxI (if x > m then x else m) xs ∈ _
    rcases List.mem_cons.mp h with e | e
    · rw [e]; split
      · exact List.mem_cons_of_mem _ List.mem_cons_self
      · exact List.mem_cons_self
    · exact List.mem_cons_of_mem _ (List.mem_cons_of_mem _ e)
theorem maxI_ge : ∀ (xs : List Int) (m : Int), ∀ y ∈ m :: xs, y ≤ maxI m xs
  | [], m => fun y hy => by
    rcases List.mem_cons.mp hy with e | e
    · rw [e]; exact Int.le_refl _
    · cases e
  | x :: xs, m => fun y hy => by
    have h := maxI_ge xs (if x > m then x else m)
    show y ≤ maxI (if x > m then x else m) xs
    have h0 := h _ List.mem_cons_self
    rcases List.mem_cons.mp hy with e | e
    · subst e
      refine Int.le_trans ?_ h0
      split <;> omega
    · rcases List.mem_cons.mp e with e | e
      · subst e
        refine Int.le_trans ?_ h0
        split <;> omega
      · exact h y (List.mem_cons_of_mem _ e)
theorem minI_mem : ∀ (xs : List Int) (m : Int), minI m xs ∈ m :: xs
  | [], m => List.mem_cons_self
  | x :: xs, m => by
    have h := minI_mem xs (if x < m then x else m)
    show minI (if x < m then x else m) xs ∈ _
    rcases List.mem_cons.mp h with e | e
    · rw [e]; split
      · exact List.mem_cons_of_mem _ List.mem_cons_self
      · exact List.mem_cons_self
    · exact List.mem_cons_of_mem _ (List.mem_cons_of_mem _ e)
theorem minI_le : ∀ (xs : List Int) (m : Int), ∀ y ∈ m :: xs, minI m xs ≤ y
  | [], m => fun y hy => by
    rcases List.mem_cons.mp hy with e | e
    · rw [e]; exact Int.le_refl _
    · cases e
  | x :: xs, m => fun y hy => by
    have h := minI_le xs (if x < m then x else m)
    show minI (if x < m then x else m) xs ≤ y
    have h0 := h _ List.mem_cons_self
    rcases List.mem_cons.mp hy with e | e
    · subst e
      refine Int.le_trans h0 ?_
      split <;> omega
    · rcases List.mem_cons.mp e with e | e
      · subst e
        refine Int.le_trans h0 ?_
        split <;> omega
      · exact h y (List.mem_cons_of_mem _ e)
/-! ### the rest -/
theorem keysLst : ∀ (ks : List Key), Rl g H N (ks.map dKey) (ks.map kV)
  | [] => .nil
  | k :: ks => .cons (keyR k) (keysLst ks)
theorem keysT_of (ft : ∀ p xs, H p = some (.tup xs) → p ∉ N) : ∀ {kvs : List (List Key × V)} {bs : List Addr}, IsKeys H kvs bs → Rl g H N ((kvs.map (·.1)).map fun k => .tup (k.map dKey)) (bs.map V.ref)
  | _, _, .nil => .nil
  | _, _, .cons h t => .cons (.tup h (ft _ _ h) (keysLst _)) (keysT_of ft t)
theorem isi_ty (hK : X.K = g.K) {d : D} {v : V} (h : Top g H N d v) (e : tyD d = true) (t : Ty) : ∃ u, TyX X.K H v u ∧ W.kitOne X.K u (.type t.nm) = some (isTy t d) := by
  rw [hK]
  have k : ∀ d v, Rv g H N d v → tyD d = true → ∃ u, TyX g.K H v u ∧ W.kitOne g.K u (.type t.nm) = some (isTy t d) := by
    intro d v h e
    cases h with
    | non => exact ⟨_, .base .non, by cases t <;> rfl⟩
    | bl b => exact ⟨_, .base (.bl b), by cases t <;> rfl⟩
    | int b => exact ⟨_, .base (.int b), by cases t <;> rfl⟩
    | str b => exact ⟨_, .base (.str b), by cases t <;> rfl⟩
    | tup h => exact ⟨_, .base (.tup h), by cases t <;> rfl⟩
    | lst h => exact ⟨_, .base (.lst h), by cases t <;> rfl⟩
    | dK h =>
      rcases h with h | ⟨o, h⟩
      · exact ⟨_, .base (.dK h), by cases t <;> rfl⟩
      · exact ⟨_, .fDict h, by cases t <;> rfl⟩
    | dT => cases e
    | ins => cases e
    | scr => cases e
    | scrK => cases e
  cases h with
  | v r => exact k d v r e
  | lst h => exact ⟨_, .base (.lst h), by cases t <;> rfl⟩
  | dK h =>
    rcases h with h | ⟨o, h⟩
    · exact ⟨_, .base (.dK h), by cases t <;> rfl⟩
    · exact ⟨_, .fDict h, by cases t <;> rfl⟩
  | dT => cases e
  | ins => cases e
end
end Bf

set_option Elab.async false
set_option linter.all false
set_option maxHeartbeats 1000000
set_option maxRecDepth 10000
/-! Built-in functions, all at once. -/
namespace Bf
open PySem PySem.Spec PyProof.Rows L2
def plainBI : BI → Bool
  | .sortSum => false | .sortSet => false | .isi _ => false | .rng => false
  | _ => true
theorem foldl_putK : ∀ (kvs acc : List (Key × V)), ((acc ++ kvs).map (·.1)).Nodup → kvs.foldl (fun acc kv => putK acc kv.1 kv.2) acc = acc ++ kvs
  | [], acc, _ => by simp
  | (k, v) :: kvs, acc, h => by
    have hk : ∀ p ∈ acc, p.1 ≠ k := by
      intro p hp e
      rw [List.map_append, List.nodup_append] at h
      exact h.2.2 p.1 (List.mem_map.mpr ⟨p, hp, rfl⟩) k (by simp) e
    have e : putK acc k v = acc ++ [(k, v)] := by
      unfold putK
      rw [if_neg]
      intro h2
      obtain ⟨p, hp, e⟩ := List.any_eq_true.mp h2
      exact hk p hp (of_decide_eq_true e)
    rw [List.foldl_cons, e, foldl_putK kvs (acc ++ [(k, v)]) (by simpa using h)]
    simp
section
variable {g : Glo} {H : Hp} {N : List Addr}
theorem pairs_ok {K : W.Frag} : ∀ {xs : List D} {us : List V} {ks : List Key} {ys : List D}, Rl g H N xs us → pairsK xs = some (ks, ys) → ∃ (ps : List Addr) (kvs : List (Key × V)), us = ps.map V.ref ∧ Paired (fun p kv => SqT K H p [kV kv.1, kv.2]) ps kvs ∧ kvs.map (·.1) = ks ∧ Rl g H N ys (kvs.map (·.2)) ∧ ks.Nodup
  | _, _, _, _, .nil, e => by cases e; exact ⟨[], [], rfl, .nil, rfl, .nil, List.nodup_nil⟩
  | _, _, ks, ys, .cons (x := x) (xs := xs) r t, e => by
    simp only [pairsK] at e
    cases h1 : pairK x with
    | none => rw [h1] at e; simp at e
    | some q =>
      cases h2 : pairsK xs with
      | none => rw [h1, h2] at e; simp at e
      | some qs =>
        rw [h1, h2] at e
        simp only [] at e
        split at e
        · cases e
        · rename_i hn
          cases e
          obtain ⟨ps, kvs, a, b, c, d, n⟩ := pairs_ok (K := K) t h2
          cases x with
          | tup zs =>
            match zs, r, h1 with
            | [k, y], r, h1 =>
              simp only [pairK, Option.map_eq_some_iff] at h1
              obtain ⟨k', hk, rfl⟩ := h1
              cases r with
              | tup h nn rl =>
                cases rl with
                | cons r1 rl =>
                  cases rl with
                  | cons r2 rl =>
                    cases rl
                    obtain rfl := keyV r1 hk
                    refine ⟨_ :: ps, (k', _) :: kvs, by rw [a]; rfl, .cons (SqT.of h) b, by rw [← c]; rfl, .cons r2 d, List.nodup_cons.mpr ⟨?_, n⟩⟩
                    intro hm
                    exact hn (List.any_eq_true.mpr ⟨_, hm, by simp⟩)
          | _ => cases h1
end
section
variable {g : Glo} {X : Cx} {H : Hp} {N : List Addr} {ds : List D} {vs : List V} {z : D} {Q : VK}
theorem bi_ok (hK : X.K = g.K) (hc : X.calm = true) (hu : X.A.units + 64 < cLine) (fr : ∀ p, H p = none → p ∉ N) (ft : ∀ p xs, H p = some (.tup xs) → p ∉ N) {b : BI} (hb : plainBI b = true) (t : Tops g H N ds vs) (e : bi b ds = some z)
    (q : ∀ v H', Grow H H' → Rv g H' N z v → Q v H') : SemC X b.f vs H Q := by
  have new : ∀ {p : Addr} {us : List V} {xs : List D}, H p = none → Rl g H N xs us → z = .lst xs → Q (.ref p) (upd H p (.lst us)) := fun hp r ez => by
    subst ez
    exact q _ _ (Grow.new hp) (.lst upd_same (fr _ hp) (r.keep (keepN hp)))
  have newT : ∀ {p : Addr} {us : List V} {xs : List D}, H p = none → Rl g H N xs us → z = .tup xs → Q (.ref p) (upd H p (.tup us)) := fun hp r ez => by
    subst ez
    exact q _ _ (Grow.new hp) (.tup upd_same (fr _ hp) (r.keep (keepN hp)))
  cases b with
  | sortSum => cases hb
  | sortSet => cases hb
  | isi t => cases hb
  | rng => cases hb
  | len =>
    match ds, vs, t, e with
    | [a], [v], .cons ta .nil, e =>
      have e : (lenD a).map (fun n => D.int n) = some z := e
      obtain ⟨n, en, rfl⟩ := Option.map_eq_some_iff.mp e
      cases a with
      | lst xs =>
        cases en
        obtain ⟨p, us, rfl, hp, r⟩ := ta.lstE
        exact SemC.of call_len_seq ⟨p, us, rfl, .inl (SqL.of hp), by rw [r.length]; exact q _ _ (Grow.refl H) (.int _)⟩
      | tup xs =>
        cases en
        obtain ⟨p, us, rfl, hp, _, r⟩ := ta.tupE
        exact SemC.of call_len_seq ⟨p, us, rfl, .inr (SqT.of hp), by rw [r.length]; exact q _ _ (Grow.refl H) (.int _)⟩
      | str s =>
        simp only [lenD] at en
        split at en
        · rename_i hl
          cases en
          obtain rfl := ta.str
          exact SemC.of call_len_str ⟨s, rfl, sz_lim hl, q _ _ (Grow.refl H) (.int _)⟩
        · cases en
      | _ => cases en
    | [], _, _, e => cases e
    | _ :: _ :: _, _, _, e => cases e
  | sorted =>
    match ds, vs, t, e with
    | [.lst xs], [v], .cons ta .nil, e =>
      obtain ⟨p, us, rfl, hp, r⟩ := ta.lstE
      simp only [bi] at e
      split at e
      · rename_i hs
        cases e
        exact srt_ok hK hu hp r hs fun p us h r => new h r rfl
      · cases e
  | list =>
    match ds, vs, t, e with
    | [.lst xs], [v], .cons ta .nil, e =>
      cases e
      obtain ⟨p, us, rfl, hp, r⟩ := ta.lstE
      exact SemC.of call_list_of ⟨p, us, rfl, .inl (SqL.of hp), fun l hl => new hl r rfl⟩
    | [.tup xs], [v], .cons ta .nil, e =>
      cases e
      obtain ⟨p, us, rfl, hp, _, r⟩ := ta.tupE
      exact SemC.of call_list_of ⟨p, us, rfl, .inr (SqT.of hp), fun l hl => new hl r rfl⟩
    | [.dK ks xs], [v], .cons ta .nil, e =>
      cases e
      obtain ⟨p, kvs, rfl, hp, ek, r⟩ := ta.dKE
      refine SemC.of (call_listD hc) ⟨p, kvs, rfl, hp, fun l hl => ?_⟩
      subst ek
      refine new hl (us := _) ?_ rfl
      have e3 : (kvs.map fun kv => kV kv.1) = (kvs.map (·.1)).map kV := by rw [List.map_map]; rfl
      first
        | exact keysLst _
        | (rw [e3]; exact keysLst _)
    | [.dT ks xs], [v], .cons ta .nil, e =>
      cases e
      obtain ⟨p, kvs, rfl, hp, ek, r⟩ := ta.dTE
      refine SemC.of (call_list_dT hc) ⟨p, kvs, rfl, hp, fun l bs hl hb => ?_⟩
      subst ek
      exact new hl (keysT_of ft hb) rfl
  | dict =>
    match ds, vs, t, e with
    | [.lst xs], [v], .cons ta .nil, e =>
      obtain ⟨⟨ks, ys⟩, eb, rfl⟩ := Option.map_eq_some_iff.mp e
      obtain ⟨p, us, rfl, hp, r⟩ := ta.lstE
      obtain ⟨ps, kvs, rfl, hpp, ek, rl, nd⟩ := pairs_ok (K := X.K) r eb
      refine SemC.of (call_dictP hc) ⟨p, ps, kvs, rfl, SqL.of hp, hpp, fun l hl => ?_⟩
      have em : mergeK [] kvs = kvs := foldl_putK kvs [] (by rw [List.nil_append, ek]; exact nd)
      rw [em]
      exact q _ _ (Grow.new hl) (.dK (.inl upd_same) (fr _ hl) ek rfl (rl.keep (keepN hl)))
  | tuple =>
    match ds, vs, t, e with
    | [.lst xs], [v], .cons ta .nil, e =>
      cases e
      obtain ⟨p, us, rfl, hp, r⟩ := ta.lstE
      exact SemC.of call_tuple_of ⟨p, us, rfl, .inl ⟨SqL.of hp, fun l hl => newT hl r rfl⟩⟩
    | [.tup xs], [v], .cons ta .nil, e =>
      cases e
      obtain ⟨p, us, rfl, hp, hn, r⟩ := ta.tupE
      exact SemC.of call_tuple_of ⟨p, us, rfl, .inr ⟨SqT.of hp, q _ _ (Grow.refl H) (.tup hp hn r)⟩⟩
  | all =>
    match ds, vs, t, e with
    | [.lst xs], [v], .cons ta .nil, e =>
      obtain ⟨bs, eb, rfl⟩ := Option.map_eq_some_iff.mp e
      obtain ⟨p, us, rfl, hp, r⟩ := ta.lstE
      obtain rfl := r.toBls eb
      exact SemC.of (cr_all hc) ⟨p, bs, rfl, SqL.of hp, q _ _ (Grow.refl H) (.bl _)⟩
  | any =>
    match ds, vs, t, e with
    | [.lst xs], [v], .cons ta .nil, e =>
      obtain ⟨bs, eb, rfl⟩ := Option.map_eq_some_iff.mp e
      obtain ⟨p, us, rfl, hp, r⟩ := ta.lstE
      obtain rfl := r.toBls eb
      exact SemC.of (cr_any hc) ⟨p, bs, rfl, SqL.of hp, q _ _ (Grow.refl H) (.bl _)⟩
  | abs =>
    match ds, vs, t, e with
    | [.int i], [v], .cons ta .nil, e =>
      cases e
      obtain rfl := ta.int
      exact SemC.of call_abs ⟨i, rfl, q _ _ (Grow.refl H) (.int _)⟩
  | int =>
    match ds, vs, t, e with
    | [.int i], [v], .cons ta .nil, e =>
      cases e
      obtain rfl := ta.int
      exact SemC.of call_int1 (.inl ⟨i, rfl, q _ _ (Grow.refl H) (.int _)⟩)
    | [.str s], [v], .cons ta .nil, e =>
      obtain ⟨n, en, rfl⟩ := Option.map_eq_some_iff.mp e
      obtain rfl := ta.str
      have k : PySem.intText? s = some n ∧ s.length ≤ 640 := by
        unfold digit at en
        repeat' split at en
        all_goals first | (cases en; done) | (rename_i h; subst h; cases en; decide +kernel) | skip
      exact SemC.of call_int_str ⟨s, n, rfl, k.1, k.2, q _ _ (Grow.refl H) (.int _)⟩
  | bool =>
    match ds, vs, t, e with
    | [.int i], [v], .cons ta .nil, e =>
      cases e
      obtain rfl := ta.int
      exact SemC.of call_bool1 (.inl ⟨i, rfl, q _ _ (Grow.refl H) (.bl _)⟩)
  | str =>
    match ds, vs, t, e with
    | [.int i], [v], .cons ta .nil, e =>
      obtain ⟨n, en, rfl⟩ := Option.map_eq_some_iff.mp e
      obtain rfl := ta.int
      have k : i.natAbs.log2 < 1920 ∧ (toString i : PySem.Str) = n := by
        unfold strOf at en
        repeat' split at en
        all_goals first | (cases en; done) | (rename_i h; subst h; cases en; exact ⟨by decide, by kernel_rfl⟩) | skip
      exact SemC.of call_str_int ⟨i, rfl, k.1, by rw [k.2]; exact q _ _ (Grow.refl H) (.str _)⟩
    | [.str s], [v], .cons ta .nil, e =>
      cases e
      obtain rfl := ta.str
      exact SemC.of SkE.call_str_str ⟨s, rfl, q _ _ (Grow.refl H) (.str _)⟩
  | max =>
    match ds, vs, t, e with
    | [.int i, .int j], [v, u], .cons ta (.cons tb .nil), e =>
      cases e
      obtain rfl := ta.int
      obtain rfl := tb.int
      exact SemC.of (call_max2 hc) ⟨i, j, rfl, q _ _ (Grow.refl H) (.int _)⟩
    | [.lst xs], [v], .cons ta .nil, e =>
      obtain ⟨p, us, rfl, hp, r⟩ := ta.lstE
      simp only [bi] at e
      split at e
      · rename_i m ns en
        cases e
        obtain rfl := r.toInts en
        refine SemC.of (cr_max hc) ⟨p, m :: ns, rfl, SqL.of hp, by simp, fun x hx hy => ?_⟩
        have h1 := hy _ (maxI_mem ns m)
        have h2 := maxI_ge ns m x hx
        have : x = maxI m ns := by omega
        rw [this]
        exact q _ _ (Grow.refl H) (.int _)
      · cases e
  | min =>
    match ds, vs, t, e with
    | [.int i, .int j], [v, u], .cons ta (.cons tb .nil), e =>
      cases e
      obtain rfl := ta.int
      obtain rfl := tb.int
      exact SemC.of (call_min2 hc) ⟨i, j, rfl, q _ _ (Grow.refl H) (.int _)⟩
    | [.lst xs], [v], .cons ta .nil, e =>
      obtain ⟨p, us, rfl, hp, r⟩ := ta.lstE
      simp only [bi] at e
      split at e
      · rename_i m ns en
        cases e
        obtain rfl := r.toInts en
        refine SemC.of (cr_min hc) ⟨p, m :: ns, rfl, SqL.of hp, by simp, fun x hx hy => ?_⟩
        have h1 := hy _ (minI_mem ns m)
        have h2 := minI_le ns m x hx
        have : x = minI m ns := by omega
        rw [this]
        exact q _ _ (Grow.refl H) (.int _)
      · cases e
end
end Bf

set_option Elab.async false
set_option linter.all false
set_option maxHeartbeats 1000000
set_option maxRecDepth 10000
/-! Calls of built-in functions. -/
namespace Bf
open PySem PySem.Spec PyProof.Rows L2
theorem noStars {env : PySem.Env} {pos : Pos} : ∀ {es : List Expr}, es.all notStar = true → (backTo pos (starEach es env)).any (·.1) = false
  | [], _ => rfl
  | e :: es, h => by
    rw [List.all_cons, Bool.and_eq_true] at h
    rw [star_cons h.1]
    show (false || (backTo pos (starEach es env)).any (·.1)) = false
    rw [noStars h.2]; rfl
def BI.x : BI → PySem.Str
  | .len => "len" | .sorted => "sorted" | .sortSum => "sorted" | .sortSet => "sorted" | .list => "list" | .tuple => "tuple" | .all => "all" | .any => "any"
  | .abs => "abs" | .int => "int" | .bool => "bool" | .str => "str" | .max => "max" | .min => "min" | .isi _ => "isinstance" | .dict => "dict" | .rng => "list"
def Ty.x : Ty → PySem.Str
  | .int => "int" | .bool => "bool" | .str => "str" | .tuple => "tuple" | .list => "list" | .dict => "dict"
/-- a built-in's name is the module's too, and unwritten -/
structure Free (X : Cx) (x : PySem.Str) : Prop where
  gl : Gl X x
  mg : X.mg x = none
section
variable {g : Glo} {X : Cx} {Wx : WX} {cl : Nat → List W → Mem → Rs W} {k : Nat} {pos p p2 q : Pos} {a b c : E} {x y z : Expr} {es : Es} {xs : List Expr} {cs : List CA} {B L : List Addr}
theorem gets_tops {H : Hp} {M : Mem} (m : MR g cs B L H M) : ∀ {ws : List Bf.W} {vs : List V} {ds : List D}, RSs g cs B H ws vs → gets M ws = some ds → Tops g H (NV cs B) ds vs
  | _, _, _, .nil, e => by cases e; exact .nil
  | _, _, ds, .cons (w := w) (ws := ws) r t, e => by
    simp only [gets] at e
    cases h1 : w.get M with
    | none => rw [h1] at e; simp at e
    | some d =>
      cases h2 : gets M ws with
      | none => rw [h1, h2] at e; simp at e
      | some ds' =>
        rw [h1, h2] at e; cases e
        exact .cons (r.top m h1) (gets_tops m t h2)
theorem bi_post (G : Gd g k X) {o : BI} (ho : plainBI o = true) (hs : xs.all notStar = true) (ja : JA g X Wx cl es xs) {env : Env} {M : Mem} {σ : L2.St} {H : Hp} {Q : VK} (he : ER g cs H (NV cs B) env σ) (m : MR g cs B [] H M)
    (post : Post g cs B [] Wx σ (RS g cs B []) H (evE cl (.bi o es) env M) Q) : SemA X xs σ H fun vs H1 => SemC X o.f vs H1 Q := by
  simp only [evE] at post
  refine (ja env M σ H cs B [] _ (.inl rfl) he m (Post.bind (rel := relA g cs B) backs_S post)).mono fun vs H1 ⟨ws, M1, e1, m1, r1, p1⟩ => ?_
  cases hg : gets M1 ws with
  | none => rw [hg] at p1; exact p1.elim
  | some ds =>
    rw [hg] at p1
    cases hb : bi o ds with
    | none => simp only [hb] at p1; exact p1.elim
    | some z =>
      simp only [hb] at p1
      exact bi_ok G.hK G.calm G.hu (fun p hp => not_NV m1 hp) (fun p us hp => tup_NV m1 hp) ho (gets_tops m1 r1 hg) hb fun v H' gr rv => p1 v H' gr.ext (gr.mr m1) (.v rv)
theorem je_bi (G : Gd g k X) {o : BI} (ho : plainBI o = true) (F : Free X o.x) (hs : (x :: xs).all notStar = true) (ja : JA g X Wx cl es (x :: xs)) : JE g X Wx cl (.bi o es) (.Call (.Name o.x p) (x :: xs) [] pos) := fun env M σ H cs B L Q hl he m post => by
  obtain rfl := noL hl rfl
  have h := bi_post G ho hs ja he m post
  rw [List.all_cons, Bool.and_eq_true] at hs
  have st := star_cons (env := X.env) (xs := xs) hs.1
  have ns := noStars (env := X.env) (pos := pos) hs.2
  cases o with
  | sortSum => cases ho
  | sortSet => cases ho
  | isi t => cases ho
  | rng => cases ho
  | dict => exact SemE.of (pe_callTy (T := "dict") cr_sem F.gl F.mg (by kernel_rfl) pa_sem (by decide) (by decide) st ns) h
  | len => exact SemE.of (pe_callB (id := "len") cr_sem F.gl F.mg (by kernel_rfl) pa_sem (by decide) (by decide) st ns) h
  | sorted => exact SemE.of (pe_callB (id := "sorted") cr_sem F.gl F.mg (by kernel_rfl) pa_sem (by decide) (by decide) st ns) h
  | all => exact SemE.of (pe_callB (id := "all") cr_sem F.gl F.mg (by kernel_rfl) pa_sem (by decide) (by decide) st ns) h
  | any => exact SemE.of (pe_callB (id := "any") cr_sem F.gl F.mg (by kernel_rfl) pa_sem (by decide) (by decide) st ns) h
  | abs => exact SemE.of (pe_callB (id := "abs") cr_sem F.gl F.mg (by kernel_rfl) pa_sem (by decide) (by decide) st ns) h
  | max => exact SemE.of (pe_callB (id := "max") cr_sem F.gl F.mg (by kernel_rfl) pa_sem (by decide) (by decide) st ns) h
  | min => exact SemE.of (pe_callB (id := "min") cr_sem F.gl F.mg (by kernel_rfl) pa_sem (by decide) (by decide) st ns) h
  | list => exact SemE.of (pe_callTy (T := "list") cr_sem F.gl F.mg (by kernel_rfl) pa_sem (by decide) (by decide) st ns) h
  | tuple => exact SemE.of (pe_callTy (T := "tuple") cr_sem F.gl F.mg (by kernel_rfl) pa_sem (by decide) (by decide) st ns) h
  | int => exact SemE.of (pe_callTy (T := "int") cr_sem F.gl F.mg (by kernel_rfl) pa_sem (by decide) (by decide) st ns) h
  | bool => exact SemE.of (pe_callTy (T := "bool") cr_sem F.gl F.mg (by kernel_rfl) pa_sem (by decide) (by decide) st ns) h
  | str => exact SemE.of (pe_callTy (T := "str") cr_sem F.gl F.mg (by kernel_rfl) pa_sem (by decide) (by decide) st ns) h
/-! isinstance(x, T) -/
theorem pe_ty {t : Ty} (F : Free X t.x) : PE X (.Name t.x p) (tC (.ty t.nm)) := by
  cases t with
  | int => exact pe_bltn (u := .type "int") F.gl F.mg (by kernel_rfl) rfl (by decide) (by decide)
  | bool => exact pe_bltn (u := .type "bool") F.gl F.mg (by kernel_rfl) rfl (by decide) (by decide)
  | str => exact pe_bltn (u := .type "str") F.gl F.mg (by kernel_rfl) rfl (by decide) (by decide)
  | tuple => exact pe_bltn (u := .type "tuple") F.gl F.mg (by kernel_rfl) rfl (by decide) (by decide)
  | list => exact pe_bltn (u := .type "list") F.gl F.mg (by kernel_rfl) rfl (by decide) (by decide)
  | dict => exact pe_bltn (u := .type "dict") F.gl F.mg (by kernel_rfl) rfl (by decide) (by decide)
theorem evEs_one {M : Mem} {env : Env} : evEs cl (.cons a .nil) env M = (toV (evE cl a env M)).bind fun w M1 => .ok [w] M1 := by
  simp only [evEs]
  cases toV (evE cl a env M) <;> rfl
theorem je_isi (G : Gd g k X) {t : Ty} (F : Free X "isinstance") (F2 : Free X t.x) (hs : notStar x = true) (ja : JE g X Wx cl a x) : JE g X Wx cl (.bi (.isi t) (.cons a .nil)) (.Call (.Name "isinstance" p) [x, .Name t.x p2] [] pos) := fun env M σ H cs B L Q hl he m post => by
  obtain rfl := noL hl rfl
  refine SemE.of (pe_callB (id := "isinstance") call_isi F.gl F.mg (by kernel_rfl) (pa_cons pe_sem (pa_cons (pe_ty F2) pa_nil (by rfl)) (star_cons hs)) (by decide) (by decide) (star_cons hs) (noStars (by rfl))) ?_
  show SemE X x σ H fun v H1 => rIsi X.K [v, .ty t.nm] H1 Q
  simp only [evE, evEs_one] at post
  refine (ja env M σ H cs B [] _ (.inl rfl) he m (toV_post m (Post.bind (rel := RS g cs B []) backs_S ?_))).mono fun v H1 (⟨w, M1, e1, m1, r1, p1⟩ : ∃ w M1, Ext cs [] H H1 ∧ MR g cs B [] H1 M1 ∧ RS g cs B [] H H1 M1 w v ∧ Post g cs B [] Wx σ (RS g cs B []) H1 ((fun w M1 => match gets M1 [w] with
      | some ds => (ofO (bi (.isi t) ds) M1).bind fun z M2 => .ok (.v z) M2
      | none => .no) w M1) Q) => ?_
  · cases hr : toV (evE cl a env M) with
    | ok w M1 => rw [hr] at post; exact post
    | ex => rw [hr] at post; exact post
    | no => rw [hr] at post; exact post
  · simp only [gets] at p1
    cases hw : w.get M1 with
    | none => simp only [hw] at p1; exact p1.elim
    | some d =>
      simp only [hw, bi] at p1
      have tp := (r1.rw m).top m1 hw
      by_cases ht : tyD d = true
      · rw [if_pos ht] at p1
        obtain ⟨u, h1, h2⟩ := isi_ty (X := X) G.hK tp ht t
        exact ⟨v, .ty t.nm, u, .type t.nm, isTy t d, rfl, .ty _, h1, h2, p1 _ _ Ext.refl m1 (.v (.bl _))⟩
      · rw [if_neg ht] at p1; exact p1.elim
/-! sorted(set(xs)), list(range(n)) -/
theorem je_sortSet (G : Gd g k X) (F : Free X "sorted") (F2 : Free X "set") (hs : notStar x = true) (ja : JE g X Wx cl a x) : JE g X Wx cl (.bi .sortSet (.cons a .nil)) (.Call (.Name "sorted" p) [.Call (.Name "set" p2) [x] [] q] [] pos) := fun env M σ H cs B L Q hl he m post => by
  obtain rfl := noL hl rfl
  refine SemE.of (pe_sortSet G.calm F.gl F.mg F2.gl F2.mg pe_sem (star_cons hs)) ?_
  simp only [evE, evEs_one] at post
  refine (ja env M σ H cs B [] _ (.inl rfl) he m (toV_post m (Post.bind (rel := RS g cs B []) backs_S ?_))).mono fun v H1 (⟨w, M1, e1, m1, r1, p1⟩ : ∃ w M1, Ext cs [] H H1 ∧ MR g cs B [] H1 M1 ∧ RS g cs B [] H H1 M1 w v ∧ Post g cs B [] Wx σ (RS g cs B []) H1 ((fun w M1 => match gets M1 [w] with
      | some ds => (ofO (bi .sortSet ds) M1).bind fun z M2 => .ok (.v z) M2
      | none => .no) w M1) Q) => ?_
  · cases hr : toV (evE cl a env M) with
    | ok w M1 => rw [hr] at post; exact post
    | ex => rw [hr] at post; exact post
    | no => rw [hr] at post; exact post
  · simp only [gets] at p1
    cases hw : w.get M1 with
    | none => simp only [hw] at p1; exact p1.elim
    | some d =>
      simp only [hw] at p1
      have tp := (r1.rw m).top m1 hw
      cases d with
      | lst ds =>
        obtain ⟨l, us, rfl, hp, r⟩ := tp.lstE
        simp only [bi] at p1
        cases hn : allInt ds with
        | none => simp only [hn] at p1; exact p1.elim
        | some ns =>
          simp only [hn, Option.bind] at p1
          split at p1
          · rename_i h64
            obtain rfl := r.toInts hn
            exact ⟨l, ns, rfl, SqL.of hp, h64, fun p hp => p1 _ _ (Ext.upd hp) (m1.fresh hp) (.v (.lst upd_same (not_NV m1 hp) (Rl.ints _)))⟩
          · exact p1.elim
      | _ => exact p1.elim
theorem je_rng (G : Gd g k X) (F : Free X "list") (F2 : Free X "range") (hs : notStar x = true) (ja : JE g X Wx cl a x) : JE g X Wx cl (.bi .rng (.cons a .nil)) (.Call (.Name "list" p) [.Call (.Name "range" p2) [x] [] q] [] pos) := fun env M σ H cs B L Q hl he m post => by
  obtain rfl := noL hl rfl
  refine SemE.of (pe_listRg G.calm F.gl F.mg (prg_1 F2.gl F2.mg pe_sem (star_cons hs))) ?_
  simp only [evE, evEs_one] at post
  refine (ja env M σ H cs B [] _ (.inl rfl) he m (toV_post m (Post.bind (rel := RS g cs B []) backs_S ?_))).mono fun v H1 (⟨w, M1, e1, m1, r1, p1⟩ : ∃ w M1, Ext cs [] H H1 ∧ MR g cs B [] H1 M1 ∧ RS g cs B [] H H1 M1 w v ∧ Post g cs B [] Wx σ (RS g cs B []) H1 ((fun w M1 => match gets M1 [w] with
      | some ds => (ofO (bi .rng ds) M1).bind fun z M2 => .ok (.v z) M2
      | none => .no) w M1) Q) => ?_
  · cases hr : toV (evE cl a env M) with
    | ok w M1 => rw [hr] at post; exact post
    | ex => rw [hr] at post; exact post
    | no => rw [hr] at post; exact post
  · simp only [gets] at p1
    cases hw : w.get M1 with
    | none => simp only [hw] at p1; exact p1.elim
    | some d =>
      simp only [hw] at p1
      have tp := (r1.rw m).top m1 hw
      cases d with
      | int j =>
        simp only [bi] at p1
        split at p1
        · rename_i hj
          obtain rfl := tp.int
          refine ⟨j, rfl, ?_, fun p hp => p1 _ _ (Ext.upd hp) (m1.fresh hp) (.v (.lst upd_same (not_NV m1 hp) ?_))⟩
          · exact ⟨by omega, by omega, by omega, by omega, by omega⟩
          · have e : rgV 0 j = ((List.range j.toNat).map fun (i : Nat) => (i : Int)).map V.int := by
              unfold rgV
              rw [List.map_map, Int.sub_zero]
              refine List.map_congr_left fun i _ => ?_
              simp
            have e2 : ((List.range j.toNat).map fun (i : Nat) => D.int (i : Int)) = ((List.range j.toNat).map fun (i : Nat) => (i : Int)).map .int := by rw [List.map_map]; rfl
            rw [e, e2]
            exact Rl.ints _
        · exact p1.elim
      | _ => exact p1.elim
end
end Bf

set_option Elab.async false
set_option linter.all false
set_option maxHeartbeats 1000000
set_option maxRecDepth 10000
/-! sorted(pairs, key=sum) -/
namespace Bf
open PySem PySem.Spec PyProof.Rows L2
section
variable {g : Glo} {X : Cx} {Wx : WX} {cl : Nat → List W → Mem → Rs W} {k : Nat} {pos p p2 q : Pos} {a b c : E} {x y z : Expr} {es : Es} {xs : List Expr} {cs : List CA} {B L N : List Addr} {H : Hp}
theorem srtSum_ok (hc : X.calm = true) (hu : X.A.units + 64 < cLine) {a : Addr} {vs : List V} {ds : List D} {Q : VK} (hq : H a = some (.lst vs)) (r : Rl g H N ds vs) (hs : (ds.all fun x => (pairSum x).isSome) = true)
    (q : ∀ p us, H p = none → Rl g H N (ds.mergeSort fun a b => decide ((pairSum a).getD 0 ≤ (pairSum b).getD 0)) us → Q (.ref p) (upd H p (.lst us))) {pins : List (Addr × Obj)} {s : Shared} {σ : L2.St} {u : Value} (I : Inv X pins σ H s) (ru : RelV (.ref a) u) :
    wpAny (model X.prog X.w) X.A (call (.builtin "sorted") [u] [(Str.ofString "key", .builtin "sum")]) (EP X pins σ Q) X.xe s := by
  cases ru
  obtain ⟨its, rv, hl, hz⟩ := I.list (SqL.of hq)
  have zl : (ds.zip vs).length = ds.length := by rw [List.length_zip, r.length, Nat.min_self]
  have zf : (ds.zip vs).map (·.1) = ds := List.map_fst_zip (by rw [r.length]; exact Nat.le_refl _)
  have mem : ∀ z ∈ ds.zip vs, z.1 ∈ ds := fun z hz => by
    have : z.1 ∈ (ds.zip vs).map (·.1) := List.mem_map.mpr ⟨z, hz, rfl⟩
    rw [zf] at this; exact this
  refine W.sorted_key_data (b := false) (vs := its) (bs := ds.zip vs) (R := fun u z => RelV z.2 u) (fun z : D × V => .int ((pairSum z.1).getD 0)) hl.isList (each_zip r rv fun d v u _ _ h => h) (W.AllAlike.of fun _ _ => by simp [W.alike]) ?_ ?_ (fun z hz => ?_) (ksk_s1 _ _) (fun _ => ksk_l1 _ _) (fun _ => ksk_t4 _ _) ?_ ?_
  · refine .inr fun x hx => ?_
    obtain ⟨z, _, rfl⟩ := List.mem_map.mp hx
    exact ⟨fun z => (by cases z), fun _ z => (by cases z)⟩
  · rw [zl, ← r.length]; exact hz
  · show X.A.units + 2 + (PyData.int _).depth < cLine
    have : (PyData.int ((pairSum z.1).getD 0)).depth = 0 := rfl
    omega
  · intro v z hv hz h tk kp
    have hps := List.all_eq_true.mp hs _ (mem z hz)
    have rz := rl_zip r z hz
    obtain ⟨d, w⟩ := z
    cases d with
    | tup xs =>
      match xs, hps with
      | [.int i, .int j], _ =>
        cases rz with
        | @tup b ws _ hb nb rb =>
          cases hv
          obtain ⟨its2, rv2, p2, _⟩ := I.tuple (SqT.of hb)
          have p2 : s.heap.IsTuple b its2.toArray := p2
          cases rb with
          | cons r1 rb =>
            cases rb with
            | cons r2 rb =>
              cases rb
              cases r1; cases r2
              cases rv2 with
              | cons e1 rv2 =>
                cases rv2 with
                | cons e2 rv2 =>
                  cases rv2
                  obtain ⟨t1, rfl⟩ := e1
                  obtain ⟨t2, rfl⟩ := e2
                  have ht : h.IsTuple b (intItems #[(i, t1), (j, t2)]) := by
                    have : intItems #[(i, t1), (j, t2)] = [Value.int i t1, Value.int j t2].toArray := by simp [intItems]
                    rw [this]
                    exact p2.at fun o e => kp _ _ e
                  refine W.ktm_sumG (s := { s with heap := h, toks := tk }) (by show X.A.handled = none; exact I.ok.hd hc) ht fun h' tk' t' kp' => ⟨h', tk', rfl, kp', ?_⟩
                  have e : preSum (numAt #[(i, t1), (j, t2)]) (#[(i, t1), (j, t2)] : Array (Int × Tok)).size = (pairSum (.tup [.int i, .int j])).getD 0 := by
                    show 0 + i + j = i + j
                    omega
                  rw [e]
                  exact .int _ _
    | _ => cases hps
  · intro out c h' tk kp hfr hD ho eo
    rw [W.dataLe_int] at eo
    have hn := I.hok.fresh (a := s.heap.objs.size + 1) (Nat.le_succ _)
    have perm := List.mergeSort_perm (ds.zip vs) fun a b : D × V => decide ((pairSum a.1).getD 0 ≤ (pairSum b.1).getD 0)
    have el : ((ds.zip vs).mergeSort fun a b : D × V => decide ((pairSum a.1).getD 0 ≤ (pairSum b.1).getD 0)).map (·.1) = ds.mergeSort fun a b => decide ((pairSum a).getD 0 ≤ (pairSum b).getD 0) := by
      refine (List.map_mergeSort (r := fun a b : D × V => decide ((pairSum a.1).getD 0 ≤ (pairSum b.1).getD 0)) (s := fun a b => decide ((pairSum a).getD 0 ≤ (pairSum b).getD 0)) (f := fun z : D × V => z.1) (fun a _ b _ => rfl)).trans ?_
      rw [zf]
    have rl := rl_of_zip (g := g) (H := H) (N := N) (zs := (ds.zip vs).mergeSort fun a b : D × V => decide ((pairSum a.1).getD 0 ≤ (pairSum b.1).getD 0)) fun z hz => rl_zip r z (perm.mem_iff.mp hz)
    rw [el] at rl
    have hlen : (((ds.zip vs).mergeSort fun a b : D × V => decide ((pairSum a.1).getD 0 ≤ (pairSum b.1).getD 0)).map (·.2)).length ≤ sizeLine := by
      rw [List.length_map, perm.length_eq, zl, ← r.length]; exact hz
    exact ⟨.ref _, upd H (s.heap.objs.size + 1) (.lst _), I.laid (t' := tk) kp (Nat.le_succ _) ⟨hlen, out, c, each_vals eo, hD⟩, rfl, q _ _ hn rl⟩
theorem je_sortSum (G : Gd g k X) (F : Free X "sorted") (F2 : Free X "sum") (hs : notStar x = true) (ja : JE g X Wx cl a x) {p3 : Pos} : JE g X Wx cl (.bi .sortSum (.cons a .nil)) (.Call (.Name "sorted" p) [x] [⟨some "key", .Name "sum" p2, p3⟩] pos) := fun env M σ H cs B L Q hl he m post => by
  obtain rfl := noL hl rfl
  simp only [evE, evEs_one] at post
  have hx : SemE X x σ H (fun v H1 => ∃ l us ds, v = .ref l ∧ H1 l = some (.lst us) ∧ Rl g H1 (NV cs B) ds us ∧ (ds.all fun x => (pairSum x).isSome) = true ∧
      ∀ p ws, H1 p = none → Rl g H1 (NV cs B) (ds.mergeSort fun a b => decide ((pairSum a).getD 0 ≤ (pairSum b).getD 0)) ws → Q (.ref p) (upd H1 p (.lst ws))) := by
    refine (ja env M σ H cs B [] _ (.inl rfl) he m (toV_post m (Post.bind (rel := RS g cs B []) backs_S ?_))).mono fun v H1 (⟨w, M1, e1, m1, r1, p1⟩ : ∃ w M1, Ext cs [] H H1 ∧ MR g cs B [] H1 M1 ∧ RS g cs B [] H H1 M1 w v ∧ Post g cs B [] Wx σ (RS g cs B []) H1 ((fun w M1 => match gets M1 [w] with
      | some ds => (ofO (bi .sortSum ds) M1).bind fun z M2 => .ok (.v z) M2
      | none => .no) w M1) Q) => ?_
    · cases hr : toV (evE cl a env M) with
      | ok w M1 => rw [hr] at post; exact post
      | ex => rw [hr] at post; exact post
      | no => rw [hr] at post; exact post
    · simp only [gets] at p1
      cases hw : w.get M1 with
      | none => simp only [hw] at p1; exact p1.elim
      | some d =>
        simp only [hw] at p1
        have tp := (r1.rw m).top m1 hw
        cases d with
        | lst ds =>
          obtain ⟨l, us, rfl, hp, r⟩ := tp.lstE
          simp only [bi] at p1
          split at p1
          · rename_i hall
            exact ⟨l, us, ds, rfl, hp, r, hall, fun p ws hn rl => p1 _ _ (Ext.upd hn) (m1.fresh hn) (.v (.lst upd_same (not_NV m1 hn) (rl.keep (keepN hn))))⟩
          · exact p1.elim
        | _ => exact p1.elim
  intro pins s I
  refine wpAny_Call_Name_kw (ld_blt I F.gl F.mg (u := .builtin "sorted") (by kernel_rfl) ?_)
  have ha : PA X [x] (tCons (SemE X x) tNil) := pa_cons pe_sem pa_nil (star_cons hs)
  have hx' : tCons (SemE X x) tNil σ H (fun vs H1 => ∃ v, vs = [v] ∧ ∃ l us ds, v = .ref l ∧ H1 l = some (.lst us) ∧ Rl g H1 (NV cs B) ds us ∧ (ds.all fun x => (pairSum x).isSome) = true ∧
      ∀ p ws, H1 p = none → Rl g H1 (NV cs B) (ds.mergeSort fun a b => decide ((pairSum a).getD 0 ≤ (pairSum b).getD 0)) ws → Q (.ref p) (upd H1 p (.lst ws))) := hx.mono fun v H1 h => ⟨v, rfl, h⟩
  refine PyProof.Rows.callWith_kw (thn (ha.run pos pins s σ H _ I hx') fun us s1 ⟨vs, H1, I1, r1, v, ev, l, us', ds, el, hl, rl, hall, q1⟩ => ?_) (by rw [star_cons hs]; rfl) (by rw [star_cons hs]; rfl) rfl rfl
  subst ev; subst el
  cases r1 with
  | cons ru rn =>
    cases rn
    show wpAny _ _ (evalAll ((do let v ← eval (.Name "sum" p2) X.env; standAt pos; pure v) :: [])) _ _ s1
    refine wpAny_evalAll_cons (wpAny_bind (ld_blt I1 F2.gl F2.mg boot_sum (wpAny_bind (wpAny_standAt (wpAny_pure (wpAny_evalAll_nil ?_))))))
    exact srtSum_ok G.calm G.hu hl rl hall q1 I1 ru
end
end Bf

set_option Elab.async false
set_option linter.all false
set_option maxHeartbeats 1000000
set_option maxRecDepth 10000
/-! Calls. -/
namespace Bf
open PySem PySem.Spec PyProof.Rows L2
/-- from cells cs over H to cells cs' over H': the first n0 stay, the others may gain containers, new ones may come -/
structure Step (n0 : Nat) (cs cs' : List CA) (H H' : Hp) : Prop where
  ext : Ext cs [] H H'
  gro : ∀ (i : Nat) (ca : CA), cs[i]? = some ca → ∃ ca', cs'[i]? = some ca' ∧ ca'.a = ca.a ∧ ∀ p ∈ ca.own, p ∈ ca'.own
  fix : ∀ i, i < n0 → cs'[i]? = cs[i]?
  new : ∀ a ∈ av cs', a ∈ av cs ∨ H a = none
section
variable {g : Glo} {n0 : Nat} {cs cs1 cs' : List CA} {B L N : List Addr} {H H1 H' : Hp} {M : Mem}
theorem Step.of (e : Ext cs [] H H') : Step n0 cs cs H H' := ⟨e, fun i ca h => ⟨ca, h, rfl, fun p hp => hp⟩, fun _ _ => rfl, fun a h => .inl h⟩
theorem Step.refl : Step n0 cs cs H H := .of Ext.refl
theorem Step.av_old (s : Step n0 cs cs' H H') {a : Addr} (h : a ∈ av cs) : a ∈ av cs' := by
  obtain ⟨ca, hca, ha⟩ := List.mem_flatMap.mp h
  obtain ⟨i, hi⟩ := List.mem_iff_getElem?.mp hca
  obtain ⟨ca', h1, h2, h3⟩ := s.gro i ca hi
  refine mem_av h1 ?_
  rcases List.mem_cons.mp ha with e | e
  · rw [e, ← h2]; exact List.mem_cons_self
  · obtain ⟨p, hp, rfl⟩ := List.mem_map.mp e
    exact List.mem_cons_of_mem _ (List.mem_map.mpr ⟨p, h3 p hp, rfl⟩)
theorem Step.trans (s : Step n0 cs cs1 H H1) (t : Step n0 cs1 cs' H1 H') : Step n0 cs cs' H H' := by
  have back : ∀ a, a ∉ av cs → H1 a = none → H a = none := fun a ha h1 => by
    cases q : H a with
    | none => rfl
    | some o => rw [s.ext a o q (.inl ha)] at h1; cases h1
  refine ⟨fun a o h n => ?_, fun i ca h => ?_, fun i hi => (t.fix i hi).trans (s.fix i hi), fun a ha => ?_⟩
  · refine t.ext a o (s.ext a o h n) (.inl fun z => ?_)
    rcases n with n | n
    · rcases s.new a z with z | z
      · exact n z
      · rw [h] at z; cases z
    · cases n
  · obtain ⟨c1, a1, a2, a3⟩ := s.gro i ca h
    obtain ⟨c2, b1, b2, b3⟩ := t.gro i c1 a1
    exact ⟨c2, b1, b2.trans a2, fun p hp => b3 p (a3 p hp)⟩
  · rcases t.new a ha with z | z
    · exact s.new a z
    · by_cases hc : a ∈ av cs
      · exact .inl hc
      · exact .inr (back a hc z)
theorem Step.keep (s : Step n0 cs cs' H H') : Keep H (NV cs B) H' (NV cs' B) := ⟨fun a o h n => s.ext a o h (.inl (not_av n)), fun a o h n z => by
  rcases List.mem_append.mp z with z | z
  · rcases s.new a z with z | z
    · exact n (List.mem_append_left _ z)
    · rw [h] at z; cases z
  · exact n (List.mem_append_right _ z)⟩
theorem Step.rw (s : Step n0 cs cs' H H') {w : W} {v : V} (h : RW g cs H (NV cs B) w v) : RW g cs' H' (NV cs' B) w v := by
  cases h with
  | v r => exact .v (r.keep s.keep)
  | c h =>
    obtain ⟨c1, a1, a2, a3⟩ := s.gro _ _ h
    rw [← a2]; exact .c a1
  | f h q =>
    obtain ⟨c1, a1, a2, a3⟩ := s.gro _ _ h
    exact .f a1 (a3 _ q)
  | n h n r => exact .n (s.keep.keep _ _ h n) (s.keep.sub _ _ h n) (Rl.keep s.keep r)
theorem Step.er (s : Step n0 cs cs' H H') {e : Env} {σ : L2.St} (h : ER g cs H (NV cs B) e σ) : ER g cs' H' (NV cs' B) e σ := ⟨h.len, fun i w hw => by
  obtain ⟨v, h1, h2⟩ := h.at_ i w hw
  exact ⟨v, h1, s.rw h2⟩⟩
theorem Step.back (m : MR g cs' B L H' M) (s : Step n0 cs cs' H H') {p : Addr} (h : H' p = none) : H p = none := by
  cases q : H p with
  | none => rfl
  | some o =>
    by_cases hp : p ∈ av cs
    · obtain ⟨u, hu⟩ := av_tracked m (s.av_old hp)
      rw [h] at hu; cases hu
    · rw [s.ext p o q (.inl hp)] at h; cases h
/-- a call's end -/
def PostF (g : Glo) (n0 : Nat) (cs : List CA) (B : List Addr) (E : XK) (H : Hp) (r : Rs W) (Q : VK) : Prop := match r with
  | .ok w M' => ∀ cs' v H', Step n0 cs cs' H H' → cs'.length = cs.length → MR g cs' B [] H' M' → RS g cs' B [] H H' M' w v → Q v H'
  | .ex c f M' => ∀ cs' dd H', Step n0 cs cs' H H' → cs'.length = cs.length → MR g cs' B [] H' M' → ExO g H' (NV cs' B) f dd → E (.ref (g.cA c)) dd H'
  | .no => False
/-- what a def promises, by its evaluation r -/
def spF (g : Glo) (init : Bool) (np : Nat) (r : List W → Mem → Rs W) : Sp := fun vs H Q E => vs.length = np ∧ ∃ (cs : List CA) (B : List Addr) (M : Mem) (ws : List W), MR g cs B [] H M ∧ RSs g cs B H ws vs ∧
  PostF g (if init then cs.length - 1 else cs.length) cs B E H (r ws M) Q
theorem same_of_step (s : Step cs.length cs cs' H H') (h : cs'.length = cs.length) : cs' = cs := by
  refine List.ext_getElem? fun i => ?_
  by_cases hi : i < cs.length
  · exact s.fix i hi
  · rw [List.getElem?_eq_none (by omega), List.getElem?_eq_none (by omega)]
theorem RSs.length {ws : List W} {vs : List V} (h : RSs g cs B H ws vs) : vs.length = ws.length := by
  induction h with
  | nil => rfl
  | cons r t ih => rw [List.length_cons, List.length_cons, ih]
end
/-- the facts of a def that is called -/
structure FF (g : Glo) (X : Cx) (k : Nat) (cl : Nat → List W → Mem → Rs W) (f : Nat) (a : Addr) (init : Bool) (np : Nat) (fd : FuncData) (ps : List PySem.Str) : Prop where
  ok : FnOk X.prog X.w X.K X.mg X.base (L2.CX X.prog X.w) k a fd ps (spF g init np (cl f))
  b : Binds X.K fd ps []
  len : ∀ ws M, cl f ws M ≠ .no → ws.length = np
section
variable {g : Glo} {X : Cx} {Wx : WX} {cl : Nat → List W → Mem → Rs W} {k : Nat} {pos p p2 q : Pos} {a b c : E} {x y z : Expr} {es : Es} {xs : List Expr} {cs : List CA} {B L : List Addr} {f np : Nat} {fa : Addr} {fd : FuncData} {ps : List PySem.Str} {nm : PySem.Str}
theorem FF.len' {init : Bool} (F : FF g X k cl f fa init np fd ps) {H : Hp} {ws : List W} {vs : List V} {M : Mem} (r : RSs g cs B H ws vs) (h : cl f ws M ≠ .no) : vs.length = np := r.length.trans (F.len ws M h)
theorem post_call {M1 : Mem} {H1 : Hp} {σ : L2.St} {Q : VK} {ws : List W} {vs : List V} (F : FF g X k cl f fa false np fd ps) (m : MR g cs B [] H1 M1) (r : RSs g cs B H1 ws vs) (post : Post g cs B [] Wx σ (RS g cs B []) H1 (toV (cl f ws M1)) Q) : spF g false np (cl f) vs H1 Q (WE Wx σ) := by
  have p := toV_post m post
  refine ⟨F.len' r fun z => by rw [z] at p; exact p, cs, B, M1, ws, m, r, ?_⟩
  cases hr : cl f ws M1 with
  | ok w M' =>
    rw [hr] at p
    intro cs' v H' s hl m' rs
    obtain rfl := same_of_step s hl
    exact p v H' s.ext m' rs
  | ex c f M' =>
    rw [hr] at p
    intro cs' dd H' s hl m' rs
    obtain rfl := same_of_step s hl
    exact p dd H' s.ext m' rs
  | no => rw [hr] at p; exact p.elim
theorem pe_callS0 {CX : CXT} {sp : Sp} {E : L2.St → XK} (F : FnOk X.prog X.w X.K X.mg X.base CX k fa fd ps sp) (hr : Room k X.A) (hg : Gl X nm) (hm : X.mg nm = some (.ref fa)) (hk : PySem.W.keepIn X.K (.ref fa) = true) (hb : Binds X.K fd ps []) (hx : ∀ σ, PassesAt CX X σ (E σ))
    (hdb : (nm == ("__debug__" : PySem.Str)) = false) : PE X (.Call (.Name nm p) [] [] pos) (tCallS sp E tNil) := by
  refine ⟨fun pins s σ H Q I h => ?_⟩
  refine wpAny_Call_Name_kw (ld_glob I hg hm ?_ hdb)
  exact PySem.W.callWith_K0 I.kIn hk (run_fnS (us := []) F hr hb (hx σ) I .nil h)
/-- a def of the text, called by name -/
theorem je_call (G : Gd g k X) (tk : Takes X Wx) (F : FF g X k cl f fa false np fd ps) (hg : Gl X nm) (hm : X.mg nm = some (.ref fa)) (hk : PySem.W.keepIn X.K (.ref fa) = true) (hd : (nm == ("__debug__" : PySem.Str)) = false)
    (hs : (x :: xs).all notStar = true) (ja : JA g X Wx cl es (x :: xs)) : JE g X Wx cl (.call f es) (.Call (.Name nm p) (x :: xs) [] pos) := fun env M σ H cs B L Q hl he m post => by
  obtain rfl := noL hl rfl
  simp only [evE] at post
  rw [List.all_cons, Bool.and_eq_true] at hs
  exact SemE.of (pe_callS F.ok G.room hg hm hk F.b (fun σ => passAt tk σ) pa_sem hd (star_cons hs.1) (noStars hs.2))
    ((ja env M σ H cs B [] _ (.inl rfl) he m (Post.bind (rel := relA g cs B) backs_S post)).mono fun vs H1 ⟨ws, M1, e1, m1, r1, p1⟩ => post_call F m1 r1 p1)
theorem je_call0 (G : Gd g k X) (tk : Takes X Wx) (F : FF g X k cl f fa false np fd ps) (hg : Gl X nm) (hm : X.mg nm = some (.ref fa)) (hk : PySem.W.keepIn X.K (.ref fa) = true) (hd : (nm == ("__debug__" : PySem.Str)) = false) :
    JE g X Wx cl (.call f .nil) (.Call (.Name nm p) [] [] pos) := fun env M σ H cs B L Q hl he m post => by
  obtain rfl := noL hl rfl
  simp only [evE, evEs, Rs.bind] at post
  exact SemE.of (pe_callS0 F.ok G.room hg hm hk F.b (fun σ => passAt tk σ) hd) (post_call F m .nil post)
/-! ### methods -/
theorem noStarsAll {env : PySem.Env} {pos : Pos} : ∀ {es : List Expr}, es.all notStar = true → (backTo pos (starEach es env)).all (fun x => !x.1) = true
  | [], _ => rfl
  | e :: es, h => by
    rw [List.all_cons, Bool.and_eq_true] at h
    rw [star_cons h.1]
    show (true && (backTo pos (starEach es env)).all (fun x => !x.1)) = true
    rw [noStarsAll h.2]; rfl
theorem ht_of {o : Expr} {m : PySem.Str} {apos : Pos} {es : List Expr} {env : PySem.Env} (h : notSup o = true) (hs : es.all notStar = true) (hn : es.length < 30) (hl : (apos.endLine == pos.line) = true) : ∃ pl : Sem Bool, eval (.Call (.Attribute o m apos) es [] pos) env = (do
      let ov ← eval o env
      standAt apos.atName
      let (f, first) ← holding [ov] (getMethod ov m pl)
      callWith pos f first (backTo pos (starEach es env)) (backToKw pos (keywordEach [] env))) := by
  have hf : methodCallForm (es.length + ([] : List Keyword).length) (backTo pos (starEach es env)) (backToKw pos (keywordEach [] env)) = true := by
    unfold methodCallForm
    rw [noStarsAll hs]
    show (true && true && decide (es.length + 0 + 0 < 30)) = true
    rw [decide_eq_true (by omega)]; rfl
  refine ⟨(do return (← importBound o env).getD true), ?_⟩
  show (do
    let ov ← attributeBase o m env (eval o env)
    standAt apos.atName
    methodCall o m apos pos env ov (es.length + ([] : List Keyword).length) (backTo pos (starEach es env)) (backToKw pos (keywordEach [] env))) = _
  rw [base_ok h]
  unfold methodCall calleeOf methodCallPos
  rw [hf, hl]
  rfl
/-- o.m(..), what the caller's exception wish is of the slots -/
def tMethS (C : Addr) (m : PySem.Str) (sp : Sp) (E : L2.St → XK) (ta : TE) (t : TA) : TE := fun σ H Q => ta σ H fun x H1 => ∃ a dx fs, x = .ref a ∧ H1 a = some (.ins C dx fs) ∧ fs.lookup m = none ∧
  t σ H1 fun vs H2 => sp (x :: vs) H2 Q (E σ)
section
variable {CX : CXT} {sp : Sp} {E : L2.St → XK} {C : Addr} {m : PySem.Str} {o e : Expr} {apos : Pos} {ta : TE} {t : TA}
theorem pe_methW (he : PE X o ta) (c : Cls X.K C) (hm : Meth X.K C m fa) (F : FnOk X.prog X.w X.K X.mg X.base CX k fa fd ps sp) (hr : Room k X.A) (hb : Binds X.K fd ps []) (hx : ∀ σ, PassesAt CX X σ (E σ)) (ha : PA X (e :: xs) t) (ho : notSup o = true) (hss : (e :: xs).all notStar = true) (hn : xs.length < 29) (hl : (apos.endLine == pos.line) = true)
    (hst : starEach (e :: xs) X.env = (false, eval e X.env) :: starEach xs X.env) (hpl : (backTo pos (starEach xs X.env)).any (·.1) = false) :
    PE X (.Call (.Attribute o m apos) (e :: xs) [] pos) (tMethS C m sp E ta t) := by
  obtain ⟨pl, ht⟩ := ht_of (m := m) (apos := apos) (es := e :: xs) (env := X.env) (pos := pos) ho hss (by simp; omega) hl
  refine ⟨fun pins s σ H Q I h => ?_⟩
  refine PySem.W.methodCall_KW (pl := pl) (thn (he.run pins s σ H _ I h) fun u s1 ⟨x, H1, I1, rx, a, dx, fs, ex, ea, l, q⟩ => ?_) ht
  subst ex
  obtain rfl : u = Value.ref a := rx
  refine getmeth_ok I1 ea c hm l ?_
  refine PySem.W.callWith_K (first := [.ref a]) (h₀ := X.base) I1.ok.mod.kin hm.kp (thn (ha.run pos pins s1 σ H1 _ I1 q) fun us s2 ⟨vs, H2, I2, r, q2⟩ => ⟨I2.kIn, ?_⟩) hst hpl
  exact run_fnS (us := .ref a :: us) (vs := .ref a :: vs) F hr hb (hx σ) I2 (.cons rfl r) q2
theorem pe_methW0 (he : PE X o ta) (c : Cls X.K C) (hm : Meth X.K C m fa) (F : FnOk X.prog X.w X.K X.mg X.base CX k fa fd ps sp) (hr : Room k X.A) (hb : Binds X.K fd ps []) (hx : ∀ σ, PassesAt CX X σ (E σ)) (ho : notSup o = true) (hl : (apos.endLine == pos.line) = true) :
    PE X (.Call (.Attribute o m apos) [] [] pos) (tMethS C m sp E ta tNil) := by
  obtain ⟨pl, ht⟩ := ht_of (m := m) (apos := apos) (es := []) (env := X.env) (pos := pos) ho rfl (by decide) hl
  refine ⟨fun pins s σ H Q I h => ?_⟩
  refine PySem.W.methodCall_KW (pl := pl) (thn (he.run pins s σ H _ I h) fun u s1 ⟨x, H1, I1, rx, a, dx, fs, ex, ea, l, q⟩ => ?_) ht
  subst ex
  obtain rfl : u = Value.ref a := rx
  refine getmeth_ok I1 ea c hm l ?_
  exact PySem.W.callWith_K0 (first := [.ref a]) I1.kIn hm.kp (run_fnS (us := [.ref a]) (vs := [.ref a]) F hr hb (hx σ) I1 (.cons rfl .nil) q)
end
/-- a method's name is no field -/
def noFd (m : PySem.Str) : Bool := [Fd.osteps, .ofacts, .shown, .bars, .fmarks, .holders, .pused, .snow, .past].all fun f => !(f.nm == m)
theorem noFd_lookup {m : PySem.Str} (h : noFd m = true) : ∀ {fvs : List (PySem.Str × V)} {ks : List Fd}, fvs.map (·.1) = ks.map Fd.nm → fvs.lookup m = none
  | [], _, _ => rfl
  | (s, v) :: fvs, [], e => by simp at e
  | (s, v) :: fvs, k :: ks, e => by
    simp only [List.map_cons, List.cons.injEq] at e
    obtain ⟨e1, e2⟩ := e
    subst e1
    rw [List.lookup_cons]
    have : (m == k.nm) = false := by
      have h2 := List.all_eq_true.mp h k (by cases k <;> simp)
      rw [beq_eq_false_iff_ne]
      intro z
      rw [z, beq_self_eq_true] at h2
      cases h2
    rw [this]
    exact noFd_lookup h e2
theorem Top.insE {H : Hp} {N : List Addr} {c : Nat} {ks : List Fd} {ds : List D} {v : V} (h : Top g H N (.ins c ks ds) v) : ∃ a dx fvs, v = .ref a ∧ H a = some (.ins (g.cA c) dx fvs) ∧ fvs.map (·.1) = ks.map Fd.nm := by
  cases h with
  | v r =>
    cases r with
    | ins hc h n e e2 rl => exact ⟨_, _, _, rfl, h, e⟩
  | ins h e => exact ⟨_, _, _, rfl, h, e⟩
theorem je_mth (G : Gd g k X) (tk : Takes X Wx) (F : FF g X k cl f fa false np fd ps) {cc : Nat} {apos : Pos} (hc : Cls X.K (g.cA cc)) (hm : Meth X.K (g.cA cc) nm fa) (hf : noFd nm = true) (ho : notSup z = true) (hline : (apos.endLine == pos.line) = true) (hn : xs.length < 29)
    (hs : (x :: xs).all notStar = true) (jo : JE g X Wx cl a z) (ja : JA g X Wx cl es (x :: xs)) : JE g X Wx cl (.mth cc f a es) (.Call (.Attribute z nm apos) (x :: xs) [] pos) := fun env M σ H cs B L Q hl he m post => by
  obtain rfl := noL hl rfl
  simp only [evE] at post
  have hss := hs
  rw [List.all_cons, Bool.and_eq_true] at hs
  refine SemE.of (pe_methW pe_sem hc hm F.ok G.room F.b (fun σ => passAt tk σ) pa_sem ho hss hn hline (star_cons hs.1) (noStars hs.2)) ?_
  refine (jo env M σ H cs B [] _ (.inl rfl) he m (Post.bind (rel := RS g cs B []) backs_S post)).mono fun v H1 ⟨w, M1, e1, m1, r1, p1⟩ => ?_
  cases hw : w.get M1 with
  | none => rw [hw] at p1; exact p1.elim
  | some d =>
    rw [hw] at p1
    have tp := (r1.rw m).top m1 hw
    cases d with
    | ins c' ks ds =>
      simp only at p1
      by_cases hcc : c' = cc
      · subst hcc
        rw [if_pos rfl] at p1
        obtain ⟨q, dx, fvs, rfl, hq, ee⟩ := tp.insE
        refine ⟨q, dx, fvs, rfl, hq, noFd_lookup hf ee, ?_⟩
        refine (ja env M1 σ H1 cs B [] _ (.inl rfl) (he.keep e1.keep) m1 (Post.bind (rel := relA g cs B) backs_S p1)).mono fun vs H2 ⟨ws, M2, e2, m2, r2, p2⟩ => ?_
        exact post_call F m2 (.cons ((r1.rw m).keep e2.keep) r2) p2
      · rw [if_neg hcc] at p1; exact p1.elim
    | _ => exact p1.elim
theorem je_mth0 (G : Gd g k X) (tk : Takes X Wx) (F : FF g X k cl f fa false np fd ps) {cc : Nat} {apos : Pos} (hc : Cls X.K (g.cA cc)) (hm : Meth X.K (g.cA cc) nm fa) (hf : noFd nm = true) (ho : notSup z = true) (hline : (apos.endLine == pos.line) = true)
    (jo : JE g X Wx cl a z) : JE g X Wx cl (.mth cc f a .nil) (.Call (.Attribute z nm apos) [] [] pos) := fun env M σ H cs B L Q hl he m post => by
  obtain rfl := noL hl rfl
  simp only [evE, evEs, Rs.bind] at post
  refine SemE.of (pe_methW0 pe_sem hc hm F.ok G.room F.b (fun σ => passAt tk σ) ho hline) ?_
  refine (jo env M σ H cs B [] _ (.inl rfl) he m (Post.bind (rel := RS g cs B []) backs_S post)).mono fun v H1 ⟨w, M1, e1, m1, r1, p1⟩ => ?_
  cases hw : w.get M1 with
  | none => rw [hw] at p1; exact p1.elim
  | some d =>
    rw [hw] at p1
    have tp := (r1.rw m).top m1 hw
    cases d with
    | ins c' ks ds =>
      simp only at p1
      by_cases hcc : c' = cc
      · subst hcc
        rw [if_pos rfl] at p1
        obtain ⟨q, dx, fvs, rfl, hq, ee⟩ := tp.insE
        exact ⟨q, dx, fvs, rfl, hq, noFd_lookup hf ee, post_call F m1 (.cons (r1.rw m) .nil) p1⟩
      · rw [if_neg hcc] at p1; exact p1.elim
    | _ => exact p1.elim
end
end Bf

set_option Elab.async false
set_option linter.all false
set_option maxHeartbeats 1000000
set_option maxRecDepth 10000
/-! New cells, new objects. -/
namespace Bf
open PySem PySem.Spec PyProof.Rows L2
section
variable {g : Glo} {n0 : Nat} {cs cs' : List CA} {B L N N' : List Addr} {H H1 H' : Hp} {M : Mem}
theorem av_app {cs cs' : List CA} : av (cs ++ cs') = av cs ++ av cs' := List.flatMap_append
theorem av_one {ca : CA} : av [ca] = ca.all := by unfold av; simp
theorem av_take {n : Nat} {a : Addr} (h : a ∈ av (cs.take n)) : a ∈ av cs := by
  obtain ⟨ca, hca, ha⟩ := List.mem_flatMap.mp h
  exact List.mem_flatMap.mpr ⟨ca, List.mem_of_mem_take hca, ha⟩
theorem keep_sub (h : ∀ a, a ∈ N' → a ∈ N) : Keep H N H N' := ⟨fun _ _ h _ => h, fun a o _ n z => n (h a z)⟩
theorem NV_take {n : Nat} : ∀ a, a ∈ NV (cs.take n) B → a ∈ NV cs B := fun a h => by
  rcases List.mem_append.mp h with z | z
  · exact List.mem_append_left _ (av_take z)
  · exact List.mem_append_right _ z
theorem MR.take {n : Nat} (m : MR g cs B L H M) : MR g (cs.take n) B L H (M.take n) := by
  refine ⟨by rw [List.length_take, List.length_take, m.len], ?_, fun i ca d h1 h2 => ?_, m.bt, fun b hb z => m.dj b hb (av_take z)⟩
  · have e : av cs = av (cs.take n) ++ av (cs.drop n) := by rw [← av_app, List.take_append_drop]
    have nd := m.nd
    rw [e] at nd
    exact (List.nodup_append.mp nd).1
  · rw [List.getElem?_take] at h1 h2
    split at h1
    · rename_i hi
      rw [if_pos hi] at h2
      exact (m.at_ i ca d h1 h2).keep (keep_sub NV_take) fun _ _ _ h => h
    · cases h1
theorem Cont.rv {a : Addr} {d : D} (k : ∀ b, b ∈ N' → b ∈ N) (h : Cont g [] H N a d) (n : a ∉ N') : Rv g H N' d (.ref a) := by
  cases h with
  | lst h r => exact .lst h n (r.keep (keep_sub k))
  | dK h e nd r => exact .dK (.inl h.exact) n e rfl (r.keep (keep_sub k))
  | dT h e nd r => exact .dT (.inl h.exact) n e rfl (r.keep (keep_sub k))
theorem Fl.rl (k : ∀ b, b ∈ N' → b ∈ N) : ∀ {ks : List Fd} {ds : List D} {vs : List V} {ow : List (Fd × Addr)}, Fl g [] H N ks ds vs ow → (∀ p ∈ ow, p.2 ∉ N') → Rl g H N' ds vs
  | _, _, _, _, .nil, _ => .nil
  | _, _, _, _, .val e r t, h => .cons (r.keep (keep_sub k)) (Fl.rl k t h)
  | _, _, _, _, .own e r t, h => .cons (r.rv k (h _ List.mem_cons_self)) (Fl.rl k t fun p hp => h p (List.mem_cons_of_mem _ hp))
/-- a cell that is given up, by value -/
theorem cellV {i n : Nat} {ca : CA} {d : D} (m : MR g cs B [] H M) (h1 : cs[i]? = some ca) (h2 : M[i]? = some d) (hn : n ≤ i) : Rv g H (NV (cs.take n) B) d (.ref ca.a) := by
  have out : ∀ a ∈ ca.all, a ∉ NV (cs.take n) B := fun a ha z => by
    rcases List.mem_append.mp z with z | z
    · obtain ⟨c2, hc2, ha2⟩ := List.mem_flatMap.mp z
      obtain ⟨j, hj⟩ := List.mem_iff_getElem?.mp hc2
      rw [List.getElem?_take] at hj
      split at hj
      · rename_i hjn
        exact av_apart m.nd h1 hj (by omega) ha ha2 rfl
      · cases hj
    · exact m.dj a z (mem_av h1 ha)
  have k : ∀ b, b ∈ NV (cs.take n) B → b ∈ NV cs B := NV_take
  cases m.at_ i ca d h1 h2 with
  | c h => exact h.rv k (out _ List.mem_cons_self)
  | ins hc h e e2 f nd =>
    subst e2
    exact .ins hc h (out _ List.mem_cons_self) e rfl (f.rl k fun p hp => out _ (List.mem_cons_of_mem _ (List.mem_map.mpr ⟨p, hp, rfl⟩)))
theorem Step.push {ca : CA} (hk : ∀ a o, H a = some o → H' a = some o) (fr : ∀ a ∈ ca.all, H a = none) (hn : n0 ≤ cs.length) : Step n0 cs (cs ++ [ca]) H H' := by
  refine ⟨fun a o h _ => hk a o h, fun i c h => ⟨c, ?_, rfl, fun p hp => hp⟩, fun i hi => List.getElem?_append_left (by omega), fun a ha => ?_⟩
  · rw [List.getElem?_append_left (List.getElem?_eq_some_iff.mp h).1]; exact h
  · rw [av_app, List.mem_append, av_one] at ha
    exact ha.imp id (fr a)
theorem MR.push {ca : CA} {d : D} (m : MR g cs B [] H M) (hk : ∀ a o, H a = some o → H' a = some o) (nd : ca.all.Nodup) (fr : ∀ a ∈ ca.all, H a = none) (hc : CellR g [] H' (NV (cs ++ [ca]) B) ca d) : MR g (cs ++ [ca]) B [] H' (M ++ [d]) := by
  have s : Step 0 cs (cs ++ [ca]) H H' := Step.push hk fr (Nat.zero_le _)
  refine ⟨by rw [List.length_append, List.length_append, m.len]; rfl, ?_, fun i c x h1 h2 => ?_, fun b hb => ?_, fun b hb z => ?_⟩
  · rw [av_app, av_one]
    refine List.nodup_append.mpr ⟨m.nd, nd, fun a ha b hb e => ?_⟩
    subst e
    obtain ⟨o, ho⟩ := av_tracked m ha
    rw [fr _ hb] at ho; cases ho
  · by_cases hi : i < cs.length
    · rw [List.getElem?_append_left hi] at h1
      rw [List.getElem?_append_left (by rw [← m.len]; exact hi)] at h2
      exact (m.at_ i c x h1 h2).keep s.keep fun a _ o h => hk a o h
    · have l1 := (List.getElem?_eq_some_iff.mp h1).1
      rw [List.length_append] at l1
      have ei : i = cs.length := by simp at l1; omega
      subst ei
      rw [List.getElem?_append_right (Nat.le_refl _), Nat.sub_self] at h1
      rw [m.len, List.getElem?_append_right (Nat.le_refl _), Nat.sub_self] at h2
      cases h1; cases h2
      exact hc
  · obtain ⟨vs, hv⟩ := m.bt b hb
    exact ⟨vs, hk _ _ hv⟩
  · rw [av_app, List.mem_append, av_one] at z
    rcases z with z | z
    · exact m.dj b hb z
    · obtain ⟨vs, hv⟩ := m.bt b hb
      rw [fr b z] at hv; cases hv
end
section
variable {g : Glo} {X : Cx} {Wx : WX} {cl : Nat → List W → Mem → Rs W} {k : Nat} {pos p p2 q : Pos} {a b c : E} {x y z : Expr} {es : Es} {xs : List Expr} {cs : List CA} {B L : List Addr} {f np : Nat} {fa C : Addr} {fd : FuncData} {ps : List PySem.Str} {nm : PySem.Str}
theorem run_makeS {pins : List (Addr × Obj)} {σ : L2.St} {H : Hp} {s : Shared} {Q : VK} {us : List Value} {vs : List V} {CX : CXT} {sp : Sp} {E : L2.St → XK} (Mm : Mk X.K C fa) (F : FnOk X.prog X.w X.K X.mg X.base CX k fa fd ps sp) (hr : Room (k + 1) X.A) (hb : Binds X.K fd ps [])
    (hx : PassesAt CX X σ (E σ)) (I : Inv X pins σ H s) (r : Vals vs us)
    (h : ∀ x dx, H x = none → H dx = none → dx ≠ x → sp (.ref x :: vs) (upd (upd H dx (.own x)) x (.ins C dx [])) (fun v H2 => v = .non ∧ Q (.ref x) H2) (E σ)) :
    wpAny (model X.prog X.w) X.A (call (.ref C) us) (EP X pins σ Q) X.xe s := by
  have hq := h (s.heap.objs.size + 1) s.heap.objs.size (I.hok.fresh (Nat.le_succ _)) (I.hok.fresh (Nat.le_refl _)) (Nat.ne_of_lt (Nat.lt_succ_self _))
  have I2 := Inv.made (C := C) I
  have r2 : Vals (V.ref (s.heap.objs.size + 1) :: vs) (Value.ref (s.heap.objs.size + 1) :: us) := .cons rfl r
  have hl : (Value.ref (s.heap.objs.size + 1) :: us ++ []).length = ps.length := by
    rw [List.append_nil, ← r2.length]
    exact F.len _ _ _ _ hq
  have bb := hb _ (Value.ref (s.heap.objs.size + 1) :: us) I2.kIn hl
  rw [List.append_nil] at bb
  refine wpAny_call (make_map (f := fa) I.kIn Mm.makes Mm.init (beq_iff_eq.mp Mm.fn) (codeAny_mono (F.run _ X.stack _ _ ⟨Value.ref (s.heap.objs.size + 1) :: us, []⟩ _ _ _ (E σ) (hr.make C us [])
    (I2.env0.make C us []) bb r2 hq) fun r s' hq' => ?_))
  cases r with
  | error e => exact hx pins _ _ e s' I2 hq'
  | ok fl =>
    cases fl with
    | ret u =>
      obtain ⟨v, H', I3, rv, ev, q3⟩ := I2.after hq'
      subst ev
      exact ⟨rv, ⟨V.ref (s.heap.objs.size + 1), H', I3, rfl, q3⟩⟩
    | next => exact False.elim hq'
    | brk => exact False.elim hq'
    | cont => exact False.elim hq'
def tMakeS (C : Addr) (sp : Sp) (E : L2.St → XK) (t : TA) : TE := fun σ H Q => t σ H fun vs H1 => ∀ x dx, H1 x = none → H1 dx = none → dx ≠ x →
  sp (.ref x :: vs) (upd (upd H1 dx (.own x)) x (.ins C dx [])) (fun v H2 => v = .non ∧ Q (.ref x) H2) (E σ)
theorem pe_makeS {CX : CXT} {sp : Sp} {E : L2.St → XK} {e : Expr} {t : TA} (Mm : Mk X.K C fa) (F : FnOk X.prog X.w X.K X.mg X.base CX k fa fd ps sp) (hr : Room (k + 1) X.A) (hg : Gl X nm) (hm : X.mg nm = some (.ref C)) (hb : Binds X.K fd ps []) (hx : ∀ σ, PassesAt CX X σ (E σ))
    (ha : PA X (e :: xs) t) (hdb : (nm == ("__debug__" : PySem.Str)) = false) (he : starEach (e :: xs) X.env = (false, eval e X.env) :: starEach xs X.env) (hpl : (backTo pos (starEach xs X.env)).any (·.1) = false) :
    PE X (.Call (.Name nm p) (e :: xs) [] pos) (tMakeS C sp E t) := by
  refine ⟨fun pins s σ H Q I h => ?_⟩
  refine wpAny_Call_Name_kw (ld_glob I hg hm ?_ hdb)
  refine PySem.W.callWith_K (h₀ := X.base) I.ok.mod.kin Mm.kp (thn (ha.run pos pins s σ H _ I h) fun us s1 ⟨vs, H1, I1, r, q⟩ => ⟨I1.kIn, ?_⟩) he hpl
  exact run_makeS Mm F hr hb (hx σ) I1 r q
/-- the start of __init__: the new object's cell behind the others -/
theorem made_start {c : Nat} {x dx : Addr} {H : Hp} {M : Mem} (m : MR g cs B [] H M) (hc : g.has c = true) (h1 : H x = none) (h2 : H dx = none) (h3 : dx ≠ x) :
    MR g (cs ++ [⟨x, []⟩]) B [] (upd (upd H dx (.own x)) x (.ins (g.cA c) dx [])) (M ++ [.ins c [] []]) ∧ ∀ n0, n0 ≤ cs.length → Step n0 cs (cs ++ [⟨x, []⟩]) H (upd (upd H dx (.own x)) x (.ins (g.cA c) dx [])) := by
  have hk : ∀ a o, H a = some o → upd (upd H dx (.own x)) x (.ins (g.cA c) dx []) a = some o := fun a o h => by
    rw [upd_ne (ne_of_none h h1), upd_ne (ne_of_none h h2)]; exact h
  have fr : ∀ a ∈ (CA.mk x []).all, H a = none := fun a ha => by
    rcases List.mem_cons.mp ha with e | e
    · rw [e]; exact h1
    · cases e
  exact ⟨m.push hk (by simp [CA.all]) fr (.ins hc upd_same rfl rfl .nil List.nodup_nil), fun n0 hn => Step.push hk fr hn⟩
theorem Step.rs {n0 : Nat} {cs' : List CA} {H H' : Hp} {ws : List W} {vs : List V} (s : Step n0 cs cs' H H') (h : RSs g cs B H ws vs) : RSs g cs' B H' ws vs := by
  induction h with
  | nil => exact .nil
  | cons r t ih => exact .cons (s.rw r) ih
/-- what is left of __init__'s end for the maker: cells cs, then the new one -/
theorem made_end {c : Nat} {x : Addr} {ds : List Fd} {xs : List D} {H1 H2 H' : Hp} {M' : Mem} {cs' : List CA} (st : Step cs.length cs (cs ++ [⟨x, []⟩]) H1 H2) (s : Step cs.length (cs ++ [⟨x, []⟩]) cs' H2 H') (hl : cs'.length = (cs ++ [CA.mk x []]).length)
    (m : MR g cs' B [] H' M') (h : M'[cs.length]? = some (.ins c ds xs)) : cs'.take cs.length = cs ∧ Ext cs [] H1 H' ∧ MR g cs B [] H' (M'.take cs.length) ∧ Rv g H' (NV cs B) (.ins c ds xs) (.ref x) := by
  have et : cs'.take cs.length = cs := by
    refine List.ext_getElem? fun i => ?_
    rw [List.getElem?_take]
    split
    · rename_i hi
      rw [s.fix i hi, List.getElem?_append_left hi]
    · rw [List.getElem?_eq_none (by omega)]
  obtain ⟨ca, h1, h2, h3⟩ := s.gro cs.length ⟨x, []⟩ (by rw [List.getElem?_append_right (Nat.le_refl _), Nat.sub_self]; rfl)
  have r := cellV m h1 h (Nat.le_refl _)
  have mt := m.take (n := cs.length)
  rw [et] at r mt
  rw [h2] at r
  exact ⟨et, (st.trans s).ext, mt, r⟩
theorem ex_keep {H : Hp} {N N' : List Addr} {fl : D} {dd : Option Addr} (k : ∀ a, a ∈ N' → a ∈ N) (h : ExO g H N fl dd) : ExO g H N' fl dd := by
  rcases h with h | ⟨d, nm, v, h1, h2, h3⟩
  · exact .inl h
  · exact .inr ⟨d, nm, v, h1, h2, h3.keep (keep_sub k)⟩
/-- C(..), C a class of the text -/
theorem je_make (G : Gd g (k + 1) X) (tk : Takes X Wx) (F : FF g X k cl f fa true np fd ps) {cc : Nat} (hc : g.has cc = true) (Mm : Mk X.K (g.cA cc) fa) (hg : Gl X nm) (hm : X.mg nm = some (.ref (g.cA cc))) (hd : (nm == ("__debug__" : PySem.Str)) = false)
    (hs : (x :: xs).all notStar = true) (ja : JA g X Wx cl es (x :: xs)) : JE g X Wx cl (.make cc f es) (.Call (.Name nm p) (x :: xs) [] pos) := fun env M σ H cs B L Q hl he m post => by
  obtain rfl := noL hl rfl
  simp only [evE] at post
  rw [List.all_cons, Bool.and_eq_true] at hs
  refine SemE.of (pe_makeS Mm F.ok G.room hg hm F.b (fun σ => passAt tk σ) pa_sem hd (star_cons hs.1) (noStars hs.2)) ?_
  refine (ja env M σ H cs B [] _ (.inl rfl) he m (Post.bind (rel := relA g cs B) backs_S post)).mono fun vs H1 ⟨ws, M1, e1, m1, r1, p1⟩ y dx hy hdx hne => ?_
  obtain ⟨m2, st⟩ := made_start m1 hc hy hdx hne
  have st := st cs.length (Nat.le_refl _)
  have r2 : RSs g (cs ++ [⟨y, []⟩]) B (upd (upd H1 dx (.own y)) y (.ins (g.cA cc) dx [])) (.c M1.length :: ws) (.ref y :: vs) := by
    exact .cons (.c (ca := ⟨y, []⟩) (by rw [← m1.len, List.getElem?_append_right (Nat.le_refl _), Nat.sub_self]; rfl)) (st.rs r1)
  refine ⟨F.len' r2 fun z => by rw [z] at p1; exact p1, _, B, _, _, m2, r2, ?_⟩
  have en : (if true = true then (cs ++ [CA.mk y []]).length - 1 else (cs ++ [CA.mk y []]).length) = cs.length := by simp
  rw [en]
  cases hr : cl f (.c M1.length :: ws) (M1 ++ [.ins cc [] []]) with
  | no => rw [hr] at p1; exact p1
  | ok w M' =>
    rw [hr] at p1
    intro cs' v H' s hl m' rs
    simp only [madeV] at p1
    split at p1
    · rename_i c' ks ds hM
      cases rs with
      | v rv =>
        cases rv
        rw [← m1.len] at hM p1
        obtain ⟨h1, h2, h3, h4⟩ := made_end st s hl m' hM
        exact ⟨rfl, p1 _ H' h2 h3 (.v h4)⟩
    · exact p1.elim
  | ex c' fl M' =>
    rw [hr] at p1
    intro cs' dd H' s hl m' rs
    simp only [madeV] at p1
    rw [← m1.len] at p1
    have et : cs'.take cs.length = cs := by
      refine List.ext_getElem? fun i => ?_
      rw [List.getElem?_take]
      split
      · rename_i hi
        rw [s.fix i hi, List.getElem?_append_left hi]
      · rw [List.getElem?_eq_none (by omega)]
    have mt := m'.take (n := cs.length)
    rw [et] at mt
    refine p1 dd H' (st.trans s).ext mt (ex_keep (fun a ha => ?_) rs)
    rw [← et] at ha
    exact NV_take a ha
end
end Bf

set_option Elab.async false
set_option linter.all false
set_option maxHeartbeats 1000000
set_option maxRecDepth 10000
/-! len of an own object. -/
namespace Bf
open PySem PySem.Spec PyProof.Rows L2
section
variable {g : Glo} {X : Cx} {Wx : WX} {cl : Nat → List W → Mem → Rs W} {k : Nat} {pos p p2 q : Pos} {a b c : E} {x y z : Expr} {es : Es} {xs : List Expr} {cs : List CA} {B L : List Addr} {f np : Nat} {fa C : Addr} {fd : FuncData} {ps : List PySem.Str} {nm : PySem.Str}
theorem run_lenO {pins : List (Addr × Obj)} {σ : L2.St} {H : Hp} {s : Shared} {Q : VK} {a dx : Addr} {fs : List (PySem.Str × V)} {CX : CXT} {sp : Sp} {E : L2.St → XK} (hm : Meth X.K C "__len__" fa) (F : FnOk X.prog X.w X.K X.mg X.base CX k fa fd ps sp) (hr : Room (k + 1) X.A) (hb : Binds X.K fd ps [])
    (hx : PassesAt CX X σ (E σ)) (I : Inv X pins σ H s) (ea : H a = some (.ins C dx fs)) (h : sp [.ref a] H (fun v H' => ∃ n : Int, v = .int n ∧ 0 ≤ n ∧ n < 9223372036854775808 ∧ Q (.int n) H') (E σ)) :
    wpAny (model X.prog X.w) X.A (call (.builtin "len") [.ref a]) (EP X pins σ Q) X.xe s := by
  obtain ⟨mA, J, _⟩ := ins_get I.hok ea
  obtain ⟨od, J, _⟩ := J.look
  obtain ⟨m, hF⟩ := I.fr
  refine PySem.W.len_K hF I.ok.mod.kin J hm.at_ hm.fn ?_
  have r2 : Vals [V.ref a] [Value.ref a] := .cons rfl .nil
  have hl : [Value.ref a].length = ps.length := by rw [← r2.length]; exact F.len _ _ _ _ h
  have b := hb s [.ref a] I.kIn (by rw [List.append_nil]; exact hl)
  rw [List.append_nil] at b
  refine wpAny_call (codeAny_mono (F.run X.A.in1 X.stack s H ⟨[.ref a], []⟩ [.ref a] [.ref a] _ (E σ) hr.in1 I.env0.in1 b r2 h) fun r s' hq => ?_)
  cases r with
  | error e => exact hx pins H s e s' I hq
  | ok fl =>
    cases fl with
    | ret u =>
      obtain ⟨v, H', I', rv, n, rfl, h0, h1, q⟩ := I.after hq
      obtain ⟨t, rfl⟩ := rv
      exact ⟨⟨h0, by omega⟩, .int n, H', I'.tok _, ⟨_, rfl⟩, q⟩
    | next => exact False.elim hq
    | brk => exact False.elim hq
    | cont => exact False.elim hq
theorem je_lenO (G : Gd g (k + 1) X) (tk : Takes X Wx) (F : FF g X k cl f fa false np fd ps) {cc : Nat} (hm : Meth X.K (g.cA cc) "__len__" fa) (hF : Free X "len") (hs : notStar x = true) (jo : JE g X Wx cl a x) :
    JE g X Wx cl (.lenO cc f a) (.Call (.Name "len" p) [x] [] pos) := fun env M σ H cs B L Q hl he m post => by
  obtain rfl := noL hl rfl
  simp only [evE] at post
  intro pins s I
  refine wpAny_Call_Name_kw (ld_blt I hF.gl hF.mg (u := .builtin "len") (by kernel_rfl) ?_ (by decide) (by decide))
  have hA : SemA X [x] σ H fun vs H1 => ∃ v, vs = [v] ∧ ∃ w M1, Ext cs [] H H1 ∧ MR g cs B [] H1 M1 ∧ RS g cs B [] H H1 M1 w v ∧ Post g cs B [] Wx σ (RS g cs B []) H1 (match w.get M1 with
    | some (.ins c' _ _) => if c' = cc then (cl f [w] M1).bind fun w2 M2 => (match w2 with
      | .v (.int n) => if 0 ≤ n ∧ n < 9223372036854775808 then .ok (.v (.int n)) M2 else .no
      | _ => .no) else .no
    | _ => .no) Q := by
    refine SemA.of (pa_cons pe_sem pa_nil (star_cons hs)) ?_
    refine (jo env M σ H cs B [] _ (.inl rfl) he m (Post.bind (rel := RS g cs B []) backs_S post)).mono fun v H1 ⟨w, M1, e1, m1, r1, p1⟩ => ?_
    exact ⟨v, rfl, w, M1, e1, m1, r1, p1⟩
  refine PyProof.Rows.callWith_builtin1 (thn (hA pos pins s I) fun us s1 ⟨vs, H1, I1, r, v, ev, w, M1, e1, m1, r1, p1⟩ => ?_) (star_cons hs) (noStars (es := []) rfl)
  subst ev
  obtain ⟨u, eu, rv⟩ := vals1 r
  subst eu
  cases hw : w.get M1 with
  | none => rw [hw] at p1; exact p1.elim
  | some d =>
    rw [hw] at p1
    have tp := (r1.rw m).top m1 hw
    cases d with
    | ins c' ks ds =>
      simp only at p1
      by_cases hcc : c' = cc
      · subst hcc
        rw [if_pos rfl] at p1
        obtain ⟨q, dx, fvs, rfl, hq, ee⟩ := tp.insE
        cases rv
        have r2 : RSs g cs B H1 [w] [.ref q] := .cons (r1.rw m) .nil
        refine run_lenO hm F.ok G.room F.b (passAt tk σ) I1 hq ⟨F.len' r2 fun z => by rw [z] at p1; exact p1, cs, B, M1, [w], m1, r2, ?_⟩
        cases hr : cl f [w] M1 with
        | ok w' M' =>
          rw [hr] at p1
          intro cs' v H' s hl m' rs
          obtain rfl := same_of_step s hl
          cases rs with
          | v rv =>
            rename_i d'
            cases d' with
            | int n =>
              simp only [Rs.bind] at p1
              split at p1
              · rename_i hn
                cases rv
                exact ⟨n, rfl, hn.1, hn.2, p1 _ H' s.ext m' (.v (.int n))⟩
              · exact p1.elim
            | _ => exact p1.elim
          | _ => exact p1.elim
        | ex c f M' =>
          rw [hr] at p1
          intro cs' dd H' s hl m' rs
          obtain rfl := same_of_step s hl
          exact p1 dd H' s.ext m' rs
        | no => rw [hr] at p1; exact p1.elim
      · rw [if_neg hcc] at p1; exact p1.elim
    | _ => exact p1.elim
end
end Bf

set_option Elab.async false
set_option linter.all false
set_option maxHeartbeats 1000000
set_option maxRecDepth 10000
/-! Targets. -/
namespace Bf
open PySem PySem.Spec PyProof.Rows L2
def SemG (X : Cx) (tg : Expr) : TG := fun v σ H Q => ∀ (pins : List (Addr × Obj)) (s : Shared) (u : Value), Inv X pins σ H s → RelV v u → wpAny (model X.prog X.w) X.A (assign tg X.env u) (fun _ s' => ∃ σ' H', Inv X pins σ' H' s' ∧ Q σ' H') X.xe s
theorem pg_sem {X : Cx} {tg : Expr} : PG X tg (SemG X tg) := ⟨fun pins s σ H v u Q I r h => h pins s u I r⟩
theorem SemG.of {X : Cx} {tg : Expr} {t : TG} {v : V} {σ : L2.St} {H : Hp} {Q : L2.St → Hp → Prop} (h : PG X tg t) (q : t v σ H Q) : SemG X tg v σ H Q := fun pins s u I r => h.run pins s σ H v u Q I r q
def SemGs (X : Cx) (ts : List Expr) : TGs := fun vs σ H Q => ∀ (pins : List (Addr × Obj)) (s : Shared) (us : List Value), Inv X pins σ H s → Vals vs us → wpAny (model X.prog X.w) X.A (assignInOrder ((assignEach ts X.env).map (·.2)) us) (fun _ s' => ∃ σ' H', Inv X pins σ' H' s' ∧ Q σ' H') X.xe s
theorem pgs_sem {X : Cx} {ts : List Expr} : PGs X ts (SemGs X ts) := ⟨fun pins s σ H vs us Q I r h => h pins s us I r⟩
theorem SemGs.of {X : Cx} {tg : List Expr} {t : TGs} {v : List V} {σ : L2.St} {H : Hp} {Q : L2.St → Hp → Prop} (h : PGs X tg t) (q : t v σ H Q) : SemGs X tg v σ H Q := fun pins s u I r => h.run pins s σ H v u Q I r q
/-- a name that is stored -/
structure Stor (X : Cx) (i : Nat) (x : PySem.Str) : Prop where
  ix : X.N[i]? = some x
  loc : Loc X.env.scope x
  fn : X.fn x = true ∨ X.env.scope.names.lookup x = some .local
section
variable {g : Glo} {cs : List CA} {B L N : List Addr} {H H' : Hp} {M : Mem} {e e' : Env} {σ σ' : L2.St}
theorem ER.set {i : Nat} {w : W} {v : V} (h : ER g cs H N e σ) (r : RW g cs H N w v) : ER g cs H N (e.set i (some w)) (σ.set i (some v)) := ⟨by rw [List.length_set, List.length_set]; exact h.len, fun j u hu => by
  by_cases hj : i = j
  · subst hj
    have hi : i < e.length := by
      have := (List.getElem?_eq_some_iff.mp hu).1
      rw [List.length_set] at this; exact this
    rw [List.getElem?_set_self hi] at hu
    cases hu
    exact ⟨v, List.getElem?_set_self (by rw [← h.len]; exact hi), r⟩
  · rw [List.getElem?_set_ne hj] at hu
    obtain ⟨z, h1, h2⟩ := h.at_ j u hu
    exact ⟨z, by rw [List.getElem?_set_ne hj]; exact h1, h2⟩⟩
theorem ER.unset {i : Nat} {o : Option V} (h : ER g cs H N e σ) : ER g cs H N (e.set i none) (σ.set i o) := ⟨by rw [List.length_set, List.length_set]; exact h.len, fun j u hu => by
  by_cases hj : i = j
  · subst hj
    have hi : i < e.length := by
      have := (List.getElem?_eq_some_iff.mp hu).1
      rw [List.length_set] at this; exact this
    rw [List.getElem?_set_self hi] at hu
    cases hu
  · rw [List.getElem?_set_ne hj] at hu
    obtain ⟨z, h1, h2⟩ := h.at_ j u hu
    exact ⟨z, by rw [List.getElem?_set_ne hj]; exact h1, h2⟩⟩
theorem ER.wipe (h : ER g cs H N e σ) : ∀ vs : List Nat, ER g cs H N (wipeE e vs) (L2.wipe σ vs)
  | [] => h
  | v :: vs => (ER.wipe h vs).unset
/-- the same but at the slots vs -/
def Same (vs : List Nat) (σ σ' : L2.St) : Prop := σ'.length = σ.length ∧ ∀ i, i ∉ vs → σ'[i]? = σ[i]?
theorem Same.refl {vs : List Nat} : Same vs σ σ := ⟨rfl, fun _ _ => rfl⟩
theorem Same.trans {vs : List Nat} {σ1 σ2 : L2.St} (a : Same vs σ σ1) (b : Same vs σ1 σ2) : Same vs σ σ2 := ⟨b.1.trans a.1, fun i h => (b.2 i h).trans (a.2 i h)⟩
theorem Same.mono {vs us : List Nat} (h : Same vs σ σ') (k : ∀ i, i ∈ vs → i ∈ us) : Same us σ σ' := ⟨h.1, fun i hi => h.2 i fun z => hi (k i z)⟩
theorem Same.set {vs : List Nat} {i : Nat} {o : Option V} (hi : i ∈ vs) : Same vs σ (σ.set i o) := ⟨List.length_set .., fun j hj => List.getElem?_set_ne fun z => hj (by rw [← z]; exact hi)⟩
theorem wipe_in : ∀ {vs : List Nat} {i : Nat}, i ∈ vs → i < σ.length → (L2.wipe σ vs)[i]? = some none
  | v :: vs, i, h, hl => by
    unfold L2.wipe
    by_cases hv : v = i
    · subst hv
      exact List.getElem?_set_self (by rw [wipe_length]; exact hl)
    · rw [List.getElem?_set_ne hv]
      exact wipe_in ((List.mem_cons.mp h).resolve_left (fun z => hv z.symm)) hl
theorem wipe_out : ∀ {vs : List Nat} {i : Nat}, i ∉ vs → (L2.wipe σ vs)[i]? = σ[i]?
  | [], i, _ => rfl
  | v :: vs, i, h => by
    unfold L2.wipe
    rw [List.getElem?_set_ne (fun z => h (by rw [z]; exact List.mem_cons_self))]
    exact wipe_out fun z => h (List.mem_cons_of_mem _ z)
theorem Same.wipe {vs : List Nat} (h : Same vs σ σ') : L2.wipe σ' vs = L2.wipe σ vs := by
  refine List.ext_getElem? fun i => ?_
  by_cases hi : i ∈ vs
  · by_cases hl : i < σ.length
    · rw [wipe_in hi hl, wipe_in hi (by rw [h.1]; exact hl)]
    · rw [List.getElem?_eq_none (by rw [wipe_length, h.1]; omega), List.getElem?_eq_none (by rw [wipe_length]; omega)]
  · rw [wipe_out hi, wipe_out hi, h.2 i hi]
theorem Same.wiped {vs : List Nat} : Same vs σ (L2.wipe σ vs) := ⟨wipe_length .., fun i hi => wipe_out hi⟩
end
section
variable (g : Glo) (X : Cx)
def JG (t : Tg) (x : Expr) : Prop := ∀ (d : D) (v : V) (e e' : Env) (σ : L2.St) (H : Hp) (cs : List CA) (N : List Addr) (Q : L2.St → Hp → Prop), Rv g H N d v → ER g cs H N e σ → bindT t d e = some e' →
  (∀ σ', ER g cs H N e' σ' → Same t.own σ σ' → Q σ' H) → SemG X x v σ H Q
def JGs (is : List Nat) (xs : List Expr) : Prop := ∀ (ds : List D) (vs : List V) (e e' : Env) (σ : L2.St) (H : Hp) (cs : List CA) (N : List Addr) (Q : L2.St → Hp → Prop), Rl g H N ds vs → ER g cs H N e σ → setAll is ds e = some e' →
  (∀ σ', ER g cs H N e' σ' → Same is σ σ' → Q σ' H) → SemGs X xs vs σ H Q
end
section
variable {g : Glo} {X : Cx} {k : Nat} {pos : Pos} {x : PySem.Str} {i : Nat} {is : List Nat} {xs : List Expr} {y z : Expr}
theorem jg_v (G : Gd g k X) (s : Stor X i x) : JG g X (.v i) (.Name x pos) := fun d v e e' σ H cs N Q r he hb q => by
  cases hb
  exact SemG.of (pg_name G.nd s.ix s.loc s.fn) (q _ (he.set (.v r)) (Same.set List.mem_cons_self))
theorem jgs_nil : JGs g X [] [] := fun ds vs e e' σ H cs N Q r he hb q => by
  cases r with
  | nil => cases hb; exact SemGs.of pgs_nil ⟨rfl, q _ he Same.refl⟩
  | cons => cases hb
theorem each_name {x : PySem.Str} {env : PySem.Env} : (assignEach (.Name x pos :: xs) env).map (·.2) = assign (.Name x pos) env :: (assignEach xs env).map (·.2) := rfl
theorem jgs_cons (G : Gd g k X) (s : Stor X i x) (h : JGs g X is xs) : JGs g X (i :: is) (.Name x pos :: xs) := fun ds vs e e' σ H cs N Q r he hb q => by
  cases r with
  | nil => cases hb
  | cons r t =>
    refine SemGs.of (pgs_cons (pg_name G.nd s.ix s.loc s.fn) pgs_sem each_name) ⟨_, _, rfl, ?_⟩
    refine h _ _ _ _ _ H cs N Q t (he.set (.v r)) hb fun σ' h1 h2 => q σ' h1 ?_
    exact (Same.set List.mem_cons_self).trans (h2.mono fun i hi => List.mem_cons_of_mem _ hi)
def isNm : Expr → Bool
  | .Name .. => true
  | _ => false
theorem each_len {env : PySem.Env} : ∀ {xs : List Expr}, xs.all isNm = true → (assignEach xs env).length = xs.length ∧ (assignEach xs env).findIdx? (·.1) = none
  | [], _ => ⟨rfl, rfl⟩
  | x :: xs, h => by
    rw [List.all_cons, Bool.and_eq_true] at h
    obtain ⟨h1, h2⟩ := each_len h.2 (env := env)
    cases x with
    | Name n p =>
      refine ⟨congrArg (· + 1) h1, ?_⟩
      show ((false, _) :: assignEach xs env).findIdx? (·.1) = none
      rw [List.findIdx?_cons, h2]; rfl
    | _ => cases h.1
theorem setAll_len : ∀ {is : List Nat} {ds : List D} {e e' : Env}, setAll is ds e = some e' → ds.length = is.length
  | [], [], _, _, _ => rfl
  | [], _ :: _, _, _, h => by cases h
  | _ :: _, [], _, _, h => by cases h
  | i :: is, d :: ds, e, e', h => congrArg (· + 1) (setAll_len (is := is) (ds := ds) h)
theorem jg_t (G : Gd g k X) (hn : xs.all isNm = true) (hl : xs.length = is.length) (h : JGs g X is xs) {j : Nat} : JG g X (.t is) (.Tuple xs j pos) := fun d v e e' σ H cs N Q r he hb q => by
  obtain ⟨h1, h2⟩ := each_len (env := X.env) hn
  cases d with
  | tup ds =>
    refine SemG.of (pg_tup (n := xs.length) G.calm pgs_sem h1 h2) ?_
    cases r with
    | tup ha hn' rl =>
      exact ⟨_, _, rfl, SqT.of ha, by rw [rl.length, setAll_len hb, hl], h _ _ _ _ _ H cs N Q rl he hb q⟩
  | lst ds =>
    refine SemG.of (pg_lst (n := xs.length) G.calm pgs_sem h1 h2) ?_
    cases r with
    | lst ha hn' rl =>
      exact ⟨_, _, rfl, SqL.of ha, by rw [rl.length, setAll_len hb, hl], h _ _ _ _ _ H cs N Q rl he hb q⟩
  | _ => cases hb
/-- i, (j, ..) -/
theorem jg_n (G : Gd g k X) (s : Stor X i x) (hn : xs.all isNm = true) (hl : xs.length = is.length) (h : JGs g X is xs) {j j' : Nat} {p p' : Pos} : JG g X (.n i is) (.Tuple [.Name x p, .Tuple xs j p'] j' pos) := fun d v e e' σ H cs N Q r he hb q => by
  cases r with
  | tup ha hn' rl =>
    rename_i va vs xs0
    match xs0, hb, rl with
    | [a, .tup ds], hb, .cons ra (.cons (v := vb) rb .nil) =>
      obtain ⟨h1, h2⟩ := each_len (env := X.env) hn
      refine SemG.of (pg_tup (n := 2) G.calm (pgs_cons (pg_name G.nd s.ix s.loc s.fn) (pgs_cons (pg_tup (n := xs.length) G.calm pgs_sem h1 h2) pgs_nil))) ?_
      refine ⟨_, _, rfl, SqT.of ha, rfl, _, _, rfl, ?_⟩
      refine ⟨_, _, rfl, ?_⟩
      cases rb with
      | tup hb' hn2 rl =>
        refine ⟨_, _, rfl, SqT.of hb', by rw [rl.length, setAll_len hb, hl], ?_⟩
        refine h _ _ _ _ _ H cs N _ rl (he.set (.v ra)) hb fun σ' k1 k2 => ⟨rfl, q σ' k1 ?_⟩
        exact (Same.set List.mem_cons_self).trans (k2.mono fun i hi => List.mem_cons_of_mem _ hi)
  | _ => cases hb
end
end Bf

set_option Elab.async false
set_option linter.all false
set_option maxHeartbeats 1000000
set_option maxRecDepth 10000
/-! Comprehensions. -/
namespace Bf
open PySem PySem.Spec PyProof.Rows L2
def SemTs (X : Cx) (ifs : List Expr) : TT := fun σ H Q => ∀ (pins : List (Addr × Obj)) (s : Shared), Inv X pins σ H s →
    wpAny (model X.prog X.w) X.A (forIn ifs true fun c r => if r = true then do let ok ← isTrue c X.env (eval c X.env); pure (ForInStep.yield ok) else pure (ForInStep.yield r)) (TP X pins σ Q) X.xe s
theorem pts_sem {X : Cx} {ifs : List Expr} : PTs X ifs (SemTs X ifs) := ⟨fun pins s σ H Q I h => h pins s I⟩
theorem SemTs.of {X : Cx} {ifs : List Expr} {t : TT} {σ : L2.St} {H : Hp} {Q : Bool → Hp → Prop} (h : PTs X ifs t) (q : t σ H Q) : SemTs X ifs σ H Q := fun pins s I => h.run pins s σ H Q I q
def SemI (X : Cx) (tg iter : Expr) : TI := fun σ H R => ∀ (pins : List (Addr × Obj)) (s : Shared), Inv X pins σ H s →
    wpAny (model X.prog X.w) X.A (eval iter X.env) (fun v s1 => wpAny (model X.prog X.w) X.A (pyIter v) (PIE X pins σ tg R) X.xe s1) X.xe s
theorem pi_sem {X : Cx} {tg iter : Expr} : PI X tg iter (SemI X tg iter) := ⟨fun pins s σ H R I h => h pins s I⟩
theorem SemI.of {X : Cx} {tg iter : Expr} {t : TI} {σ : L2.St} {H : Hp} {R : L2.It → Hp → Prop} (h : PI X tg iter t) (q : t σ H R) : SemI X tg iter σ H R := fun pins s I => h.run pins s σ H R I q
/-- a comprehension's block -/
abbrev Bk (X : Cx) (scope : Scope) (s : Shared) (H : Hp) (C : Addr) (cl : List (PySem.Str × Addr)) (fp : List Addr) : Cx := X.blk s H scope (compEnvC scope cl C X.env) fp
def allB (X : Cx) (scope : Scope) (P : Cx → Prop) : Prop := ∀ (s : Shared) (H : Hp) (C : Addr) (cl : List (PySem.Str × Addr)) (fp : List Addr), P (Bk X scope s H C cl fp)
abbrev noX : WX := fun _ _ _ _ => False
section
variable (g : Glo) (X : Cx) (Wx : WX) (cl : Nat → List W → Mem → Rs W)
def JC (c : OE) (ifs : List Expr) : Prop := ∀ (env : Env) (M : Mem) (σ : L2.St) (H : Hp) (cs : List CA) (B L : List Addr) (Q : Bool → Hp → Prop), (L = [] ∨ c.ro = true) → ER g cs H (NV cs B) env σ → MR g cs B L H M →
  Post g cs B L Wx σ relB H (evT cl c env M) Q → SemTs X ifs σ H Q
end
/-- what a walk yields: the data ds in order, Iv what stays true meanwhile -/
structure Walk (g : Glo) (L : List Addr) (J : L2.It) (ds : List D) (Iv : Hp → List Addr → Prop) : Prop where
  st : ∀ H N H' N', Iv H N → (∀ a o, H a = some o → (a ∉ N ∨ a ∈ L) → H' a = some o) → (∀ a o, H a = some o → a ∉ N → a ∉ N') → Iv H' N'
  go : ∀ i H N, Iv H N → i < ds.length → J.go i H
  stop : ∀ i H N, Iv H N → ds.length ≤ i → J.stop i H
  yld : ∀ i H N x H', Iv H N → (∀ p, H p = none → p ∉ N) → (∀ p xs, H p = some (.tup xs) → p ∉ N) → J.yld i H x H' → Grow H H' ∧ ∀ d, ds[i]? = some d → Rv g H' N d x
section
variable {g : Glo} {cs : List CA} {B L N : List Addr} {H H' H1 : Hp} {M : Mem} {e e' : Env} {σ σ' : L2.St}
theorem MR.excl {b : Addr} {vs : List V} (m : MR g cs B L H M) (hb : b ∈ B) : MR g cs B L (upd H b (.lst vs)) M := by
  refine ⟨m.len, m.nd, fun i ca d h1 h2 => (m.at_ i ca d h1 h2).keep (keepW (List.mem_append_right _ hb)) fun a ha o ho => ?_, fun c hc => ?_, m.dj⟩
  · rw [upd_ne (fun z => m.dj b hb (mem_av h1 (by rw [← z]; exact ha)))]; exact ho
  · by_cases h : c = b
    · exact ⟨vs, by rw [h, upd_same]⟩
    · obtain ⟨us, hu⟩ := m.bt c hc
      exact ⟨us, by rw [upd_ne h]; exact hu⟩
theorem MR.unB {D : Addr} (m : MR g cs (D :: B) L H M) : MR g cs B L H M := by
  refine ⟨m.len, m.nd, fun i ca d h1 h2 => (m.at_ i ca d h1 h2).keep (keep_sub fun a ha => ?_) fun _ _ _ h => h, fun b hb => m.bt b (List.mem_cons_of_mem _ hb), fun b hb => m.dj b (List.mem_cons_of_mem _ hb)⟩
  rcases List.mem_append.mp ha with z | z
  · exact List.mem_append_left _ z
  · exact List.mem_append_right _ (List.mem_cons_of_mem _ z)
theorem ER.wipes {A vs : List Nat} (h : ER g cs H N e σ) (k : ∀ i, i ∈ vs → i ∈ A) : ER g cs H N (wipeE e A) (L2.wipe σ vs) := by
  have h2 := h.wipe A
  refine ⟨by rw [wipe_length]; exact h2.len.trans (wipe_length ..), fun i w hw => ?_⟩
  obtain ⟨v, h3, h4⟩ := h2.at_ i w hw
  obtain ⟨h5, h6⟩ := wipe_some h3
  exact ⟨v, by rw [wipe_out fun z => h6 (k i z)]; exact h5, h4⟩
/-- from the walk's start to a turn -/
theorem keepD {D : Addr} (hD : H1 D = none) (x : Ext cs L H1 H) : Keep H1 (NV cs B) H (NV cs (D :: B)) := ⟨fun a o h n => x a o h (.inl (not_av n)), fun a o h n z => by
  rcases List.mem_append.mp z with z | z
  · exact n (List.mem_append_left _ z)
  · rcases List.mem_cons.mp z with z | z
    · rw [z, hD] at h; cases h
    · exact n (List.mem_append_right _ z)⟩
end
def lcF (cl : Nat → List W → Mem → Rs W) (elt : E) (tg : Tg) (cond : OE) (e : Env) : D → Mem → Rs (Option D) := fun x M2 => match bindT tg x (wipeE e tg.own) with
  | none => .no
  | some e1 => (noEx (evT cl cond e1 M2)).bind fun k M3 => match k with
    | true => (noEx (evE cl elt e1 M3)).bind fun w M4 => match asD w with
      | some d => .ok (some d) M4
      | none => .no
    | false => .ok none M3
theorem bind_ok {α β : Type} {r : Rs α} {f : α → Mem → Rs β} {b : β} {M : Mem} (h : r.bind f = .ok b M) : ∃ a M1, r = .ok a M1 ∧ f a M1 = .ok b M := by
  cases r with
  | ok a M1 => exact ⟨a, M1, rfl, h⟩
  | ex => cases h
  | no => cases h
theorem noEx_ok {α : Type} {r : Rs α} {a : α} {M : Mem} (h : noEx r = .ok a M) : r = .ok a M := by
  cases r with
  | ok => exact h
  | ex => cases h
  | no => cases h
section
variable {g : Glo} {X : Cx} {Wx : WX} {cl : Nat → List W → Mem → Rs W} {k : Nat} {pos : Pos} {elt : E} {tg : Tg} {cond : OE} {x y t iter : Expr} {ifs : List Expr} {cs : List CA} {B L L' : List Addr} {scope : Scope} {own : List (PySem.Str × Nat)}
theorem lc_main (jg : allB X scope fun Y => JG g Y tg t) (jc : allB X scope fun Y => JC g Y noX cl cond ifs) (je : allB X scope fun Y => JE g Y noX cl elt y) (ho1 : ∀ i, i ∈ own.map (·.2) → i ∈ tg.own) (ho2 : ∀ i, i ∈ tg.own → i ∈ own.map (·.2))
    {J : L2.It} {ds : List D} {Iv : Hp → List Addr → Prop} {H1 : Hp} {M1 MF : Mem} {ysF : List D} {env : Env} {σ : L2.St} {Q : VK} (wk : Walk g L J ds Iv) (hav : ∀ a ∈ L, a ∈ av cs) (hr : L = [] ∨ (elt.ro && cond.ro) = true)
    (hm : mapL (lcF cl elt tg cond env) ds M1 = .ok ysF MF) (hz : ysF.length ≤ LIM) (he : ER g cs H1 (NV cs B) env σ) (m1 : MR g cs B L H1 M1) (iv1 : Iv H1 (NV cs B))
    (fin : ∀ D H' vs, H1 D = none → Ext cs L H1 H' → MR g cs (D :: B) L H' MF → H' D = some (.lst vs) → Rl g H' (NV cs (D :: B)) ysF vs → Q (.ref D) H') :
    ∀ D, H1 D = none → ∃ W : Nat → Nat → Hp → Prop, (∃ m, W 0 m (upd H1 D (.lst []))) ∧ ∀ i m H, W i m H →
      (J.stop i H ∧ Q (.ref D) H) ∨ (J.go i H ∧ ∃ Nx : Hp → Prop, (∀ H', Nx H' → ∃ m', m' < m ∧ W (i + 1) m' H') ∧ ∀ x H', J.yld i H x H' → (∀ s H0 C cl0 fp, SemG (Bk X scope s H0 C cl0 fp) t x (L2.wipe σ (own.map (·.2))) H' fun σ2 H2 => L2.wipe σ2 (own.map (·.2)) = L2.wipe σ (own.map (·.2)) ∧
        ∀ s H0 C cl0 fp, SemTs (Bk X scope s H0 C cl0 fp) ifs σ2 H2 fun b H3 =>
        if b = true then ∀ s H0 C cl0 fp, SemE (Bk X scope s H0 C cl0 fp) y σ2 H3 fun u H4 => ∃ acc, H4 D = some (.lst acc) ∧ acc.length < sizeLine ∧ Nx (upd H4 D (.lst (acc ++ [u]))) else Nx H3)) := by
  intro D hD
  let Wv : Nat → Nat → Hp → Prop := fun i m H => m = ds.length - i ∧ i ≤ ds.length ∧ ∃ M ys vs, Iv H (NV cs (D :: B)) ∧ Ext cs L H1 H ∧ MR g cs (D :: B) L H M ∧ H D = some (.lst vs) ∧ Rl g H (NV cs (D :: B)) ys vs ∧
    (mapL (lcF cl elt tg cond env) (ds.drop i) M).bind (fun zs M2 => .ok (ys ++ zs) M2) = .ok ysF MF
  refine ⟨Wv, ⟨ds.length, rfl, Nat.zero_le _, M1, [], [], ?_, Ext.upd hD, m1.freshB hD, upd_same, .nil, ?_⟩, ?_⟩
  · exact wk.st _ _ _ _ iv1 (fun a o h _ => by rw [upd_ne (ne_of_none h hD)]; exact h) (freshBK (u := .lst []) hD).sub
  · rw [List.drop_zero, hm]; rfl
  · rintro i m H ⟨rfl, hi, M, ys, vs, iv, ex, mr, hDv, rl, hrest⟩
    have hDB : D ∈ D :: B := List.mem_cons_self
    have hDav : D ∉ av cs := mr.dj D hDB
    by_cases hlt : i < ds.length
    · refine .inr ⟨wk.go i H _ iv hlt, fun H' => Wv (i + 1) (ds.length - (i + 1)) H', fun H' h => ⟨_, by omega, h⟩, fun x H' hy s0 H00 C0 cl0 fp0 => ?_⟩
      obtain ⟨gr, rv⟩ := wk.yld i H _ x H' iv (fun p hp => not_NV mr hp) (fun p xs hp => tup_NV mr hp) hy
      have hd : ds[i]? = some ds[i] := List.getElem?_eq_getElem hlt
      have rv := rv _ hd
      rw [List.drop_eq_getElem_cons hlt] at hrest
      simp only [mapL] at hrest
      obtain ⟨zs, M9, h1, h2⟩ := bind_ok hrest
      obtain ⟨o, M5, h3, h4⟩ := bind_ok h1
      obtain ⟨zs2, M6, h5, h6⟩ := bind_ok h4
      cases h2; cases h6
      unfold lcF at h3
      cases hb : bindT tg ds[i] (wipeE env tg.own) with
      | none => rw [hb] at h3; cases h3
      | some e1 =>
        rw [hb] at h3
        obtain ⟨kk, M3, h7, h8⟩ := bind_ok h3
        have h7 := noEx_ok h7
        have x1 : Ext cs L H H' := gr.ext
        have mr1 := gr.mr mr
        have he1 : ER g cs H' (NV cs (D :: B)) env σ := he.keep (keepD hD (ex.trans x1))
        refine jg s0 H00 C0 cl0 fp0 _ _ _ _ _ _ cs (NV cs (D :: B)) _ rv (he1.wipes ho1) hb fun σ2 er2 sm => ⟨?_, fun s2 H02 C2 cl2 fp2 => ?_⟩
        · exact ((Same.wiped (vs := own.map (·.2))).trans (sm.mono ho2)).wipe
        · have hr2 : (L = [] ∨ cond.ro = true) ∧ (L = [] ∨ elt.ro = true) := (ro2 hr).symm
          refine jc s2 H02 C2 cl2 fp2 e1 M σ2 H' cs (D :: B) L _ hr2.1 er2 mr1 ?_
          rw [h7]
          intro b H3 x3 mr3 eb
          obtain rfl : kk = b := eb
          have next : ∀ {H4 : Hp} {ys4 : List Bf.D} {vs4 : List V}, Ext cs L H H4 → MR g cs (D :: B) L H4 M5 → H4 D = some (.lst vs4) → Rl g H4 (NV cs (D :: B)) ys4 vs4 → ys4 ++ zs2 = ys ++ optC o zs2 → Iv H4 (NV cs (D :: B)) → Ext cs L H1 H4 → Wv (i + 1) (ds.length - (i + 1)) H4 := by
            intro H4 ys4 vs4 x4 mr4 hD4 rl4 ey iv4 ex4
            refine ⟨rfl, hlt, M5, ys4, _, iv4, ex4, mr4, hD4, rl4, ?_⟩
            rw [h5]
            show Rs.ok (ys4 ++ zs2) _ = _
            rw [ey]
          have keepIv : ∀ {H4 : Hp}, Ext cs L H H4 → Iv H4 (NV cs (D :: B)) := fun x4 => wk.st _ _ _ _ iv (fun a o h n => x4 a o h (n.imp not_av id)) fun a o h n => n
          cases kk with
          | false =>
            cases h8
            rw [if_neg (by decide)]
            exact next (x1.trans x3) mr3 ((x1.trans x3) _ _ hDv (.inl hDav)) (rl.keep ((x1.trans x3).keep)) rfl (keepIv (x1.trans x3)) (ex.trans (x1.trans x3))
          | true =>
            rw [if_pos rfl]
            intro s3 H03 C3 cl3 fp3
            obtain ⟨w, M4, h9, h10⟩ := bind_ok h8
            have h9 := noEx_ok h9
            refine je s3 H03 C3 cl3 fp3 e1 M3 σ2 H3 cs (D :: B) L _ hr2.2 (er2.keep x3.keep) mr3 ?_
            rw [h9]
            intro u H4 x4 mr4 rs4
            cases hw : asD w with
            | none => rw [hw] at h10; cases h10
            | some d' =>
              rw [hw] at h10
              cases h10
              have x14 := (x1.trans x3).trans x4
              have hD4 := x14 _ _ hDv (.inl hDav)
              have rvu : Rv g H4 (NV cs (D :: B)) d' u := asD_rv (rs4.rw mr3) hw
              have kD : Keep H4 (NV cs (D :: B)) (upd H4 D (.lst (vs ++ [u]))) (NV cs (D :: B)) := keepW (List.mem_append_right _ hDB)
              have rl4 := ((rl.keep x14.keep).append (.cons rvu .nil)).keep kD
              refine ⟨vs, hD4, ?_, ?_⟩
              · rw [rl.length]
                have : (ys ++ d' :: zs2).length ≤ LIM := hz
                rw [List.length_append, List.length_cons] at this
                have := sz_lim (n := ys.length + 1) (by omega)
                omega
              · refine ⟨rfl, hlt, M5, ys ++ [d'], vs ++ [u], ?_, ?_, mr4.excl hDB, upd_same, rl4, ?_⟩
                · refine wk.st _ _ _ _ (keepIv x14) (fun a o h n => ?_) fun a o h n => n
                  rw [upd_ne]
                  · exact h
                  · rintro rfl
                    rcases n with n | n
                    · exact n (List.mem_append_right _ hDB)
                    · exact hDav (hav _ n)
                · intro a o h n
                  rw [upd_ne (ne_of_none h hD)]
                  exact (ex.trans x14) a o h n
                · rw [h5]
                  show Rs.ok ((ys ++ [d']) ++ zs2) _ = _
                  rw [List.append_assoc]; rfl
    · have hi2 : i = ds.length := by omega
      subst hi2
      rw [List.drop_length] at hrest
      simp only [mapL, Rs.bind, List.append_nil] at hrest
      cases hrest
      exact .inl ⟨wk.stop _ H _ iv (Nat.le_refl _), fin D H vs hD ex mr hDv rl⟩
end
end Bf

set_option Elab.async false
set_option linter.all false
set_option maxHeartbeats 1000000
set_option maxRecDepth 10000
/-! What is walked: sequences, ranges. -/
namespace Bf
open PySem PySem.Spec PyProof.Rows L2
/-- a list that stands in the written part -/
def KL (K : PySem.W.Frag) (a : Addr) (xs : List V) : Prop := ∃ (o : Obj) (its : Array Value) (n : Nat), K.lookup a = some o ∧ o.cls = .type "list" ∧ o.dict = none ∧ o.data = .seq its n ∧ its.size ≤ sizeLine ∧ Vals xs its.toList
section
variable {g : Glo} {cs : List CA} {B L N : List Addr} {H H' H1 : Hp} {M : Mem} {a : Addr} {ds : List D}
/-- data that stands at a as a list -/
def IvL (g : Glo) (L : List Addr) (a : Addr) (ds : List D) : Hp → List Addr → Prop := fun H N => ∃ vs, Rl g H N ds vs ∧ ((Rd H a (.lst vs) ∧ (a ∉ N ∨ a ∈ L)) ∨ KL g.K a vs)
def IvT (g : Glo) (a : Addr) (ds : List D) : Hp → List Addr → Prop := fun H N => ∃ vs, Rl g H N ds vs ∧ H a = some (.tup vs) ∧ a ∉ N
theorem keepOf {N' : List Addr} (k : ∀ a o, H a = some o → (a ∉ N ∨ a ∈ L) → H' a = some o) (s : ∀ a o, H a = some o → a ∉ N → a ∉ N') : Keep H N H' N' := ⟨fun a o h n => k a o h (.inl n), s⟩
theorem walk_lst : Walk g L (Itl g.K a) ds (IvL g L a ds) where
  st := fun H N H' N' iv k s => by
    obtain ⟨vs, r, h⟩ := iv
    refine ⟨vs, r.keep (keepOf k s), ?_⟩
    rcases h with ⟨h, n⟩ | h
    · rcases h with h | ⟨o, h⟩
      · exact .inl ⟨.inl (k _ _ h n), n.imp (s _ _ h) id⟩
      · exact .inl ⟨.inr ⟨o, k _ _ h n⟩, n.imp (s _ _ h) id⟩
    · exact .inr h
  go := fun i H N iv hi => by
    obtain ⟨vs, r, h⟩ := iv
    have hl : i < vs.length := by rw [r.length]; exact hi
    exact ⟨vs, vs[i], h.elim (fun z => .inl z.1) .inr, List.getElem?_eq_getElem hl⟩
  stop := fun i H N iv hi => by
    obtain ⟨vs, r, h⟩ := iv
    exact ⟨vs, h.elim (fun z => .inl z.1) .inr, by rw [r.length]; exact hi⟩
  yld := fun i H N x H' iv _ _ y => by
    obtain ⟨vs, r, h⟩ := iv
    obtain ⟨rfl, y⟩ := y
    have e := y vs (h.elim (fun z => .inl z.1) .inr)
    refine ⟨Grow.refl _, fun d hd => ?_⟩
    obtain ⟨v, h1, h2⟩ := r.get hd
    rw [e] at h1; cases h1
    exact h2
theorem walk_tpl : Walk g L (Itt g.K a) ds (IvT g a ds) where
  st := fun H N H' N' iv k s => by
    obtain ⟨vs, r, h, n⟩ := iv
    exact ⟨vs, r.keep (keepOf k s), k _ _ h (.inl n), s _ _ h n⟩
  go := fun i H N iv hi => by
    obtain ⟨vs, r, h, n⟩ := iv
    have hl : i < vs.length := by rw [r.length]; exact hi
    exact ⟨vs, vs[i], SqT.of h, List.getElem?_eq_getElem hl⟩
  stop := fun i H N iv hi => by
    obtain ⟨vs, r, h, n⟩ := iv
    exact ⟨vs, SqT.of h, by rw [r.length]; exact hi⟩
  yld := fun i H N x H' iv _ _ y => by
    obtain ⟨vs, r, h, n⟩ := iv
    obtain ⟨rfl, y⟩ := y
    have e := y vs (SqT.of h)
    refine ⟨Grow.refl _, fun d hd => ?_⟩
    obtain ⟨v, h1, h2⟩ := r.get hd
    rw [e] at h1; cases h1
    exact h2
theorem walk_rng {lo : Int} {n : Nat} : Walk g L (Itr lo n) ((List.range n).map fun (i : Nat) => .int (lo + (i : Int))) (fun _ _ => True) where
  st := fun _ _ _ _ _ _ _ => trivial
  go := fun i H N _ hi => by
    have z : i < n := by simpa using hi
    exact z
  stop := fun i H N _ hi => by
    have z : n ≤ i := by simpa using hi
    exact z
  yld := fun i H N x H' _ _ _ y => by
    obtain ⟨rfl, rfl⟩ := y
    refine ⟨Grow.refl _, fun d hd => ?_⟩
    rw [List.getElem?_map] at hd
    obtain ⟨j, hj, rfl⟩ := Option.map_eq_some_iff.mp hd
    rw [List.getElem?_range (by
      have := (List.getElem?_eq_some_iff.mp hj).1
      simpa using this)] at hj
    cases hj
    exact .int _
theorem enumD_get : ∀ {ds : List D} {n i : Nat} {d : D}, (enumD n ds)[i]? = some d → ∃ x, ds[i]? = some x ∧ d = .tup [.int ((n + i : Nat) : Int), x]
  | [], n, i, d, h => by simp [enumD] at h
  | x :: xs, n, 0, d, h => by
    simp only [enumD, List.getElem?_cons_zero, Option.some.injEq] at h
    exact ⟨x, rfl, h.symm⟩
  | x :: xs, n, i + 1, d, h => by
    simp only [enumD, List.getElem?_cons_succ] at h
    obtain ⟨y, h1, h2⟩ := enumD_get (ds := xs) h
    refine ⟨y, h1, ?_⟩
    rw [h2]
    congr 3
    omega
theorem enumD_len : ∀ {ds : List D} {n : Nat}, (enumD n ds).length = ds.length
  | [], _ => rfl
  | x :: xs, n => congrArg (· + 1) (enumD_len (ds := xs) (n := n + 1))
theorem walk_enm : Walk g L (Ite g.K a) (enumD 0 ds) (IvL g L a ds) where
  st := (walk_lst (g := g) (L := L) (a := a) (ds := ds)).st
  go := fun i H N iv hi => by
    rw [enumD_len] at hi
    obtain ⟨vs, r, h⟩ := iv
    have hl : i < vs.length := by rw [r.length]; exact hi
    exact ⟨vs, vs[i], h.elim (fun z => .inl z.1) .inr, List.getElem?_eq_getElem hl⟩
  stop := fun i H N iv hi => by
    rw [enumD_len] at hi
    obtain ⟨vs, r, h⟩ := iv
    exact ⟨vs, h.elim (fun z => .inl z.1) .inr, by rw [r.length]; exact hi⟩
  yld := fun i H N x H' iv fr _ y => by
    obtain ⟨vs, r, h⟩ := iv
    obtain ⟨T, u, rfl, hT, rfl, y⟩ := y
    have e := y vs (h.elim (fun z => .inl z.1) .inr)
    refine ⟨Grow.new hT, fun d hd => ?_⟩
    obtain ⟨x, h1, rfl⟩ := enumD_get hd
    obtain ⟨v, h3, h4⟩ := r.get h1
    rw [e] at h3; cases h3
    rw [Nat.zero_add]
    exact .tup upd_same (fr _ hT) (.cons (.int _) (.cons (h4.keep (keepN hT)) .nil))
theorem walk_enmT : Walk g L (Itet g.K a) (enumD 0 ds) (IvT g a ds) where
  st := (walk_tpl (g := g) (L := L) (a := a) (ds := ds)).st
  go := fun i H N iv hi => by
    rw [enumD_len] at hi
    obtain ⟨vs, r, h, n⟩ := iv
    have hl : i < vs.length := by rw [r.length]; exact hi
    exact ⟨vs, vs[i], SqT.of h, List.getElem?_eq_getElem hl⟩
  stop := fun i H N iv hi => by
    rw [enumD_len] at hi
    obtain ⟨vs, r, h, n⟩ := iv
    exact ⟨vs, SqT.of h, by rw [r.length]; exact hi⟩
  yld := fun i H N x H' iv fr _ y => by
    obtain ⟨vs, r, h, n⟩ := iv
    obtain ⟨T, u, rfl, hT, rfl, y⟩ := y
    have e := y vs (SqT.of h)
    refine ⟨Grow.new hT, fun d hd => ?_⟩
    obtain ⟨x, h1, rfl⟩ := enumD_get hd
    obtain ⟨v, h3, h4⟩ := r.get h1
    rw [e] at h3; cases h3
    rw [Nat.zero_add]
    exact .tup upd_same (fr _ hT) (.cons (.int _) (.cons (h4.keep (keepN hT)) .nil))
end
/-- a walk's spec: what the iteration rule is asked -/
def PostI (g : Glo) (cs : List CA) (B : List Addr) (Wx : WX) (σ : L2.St) (H : Hp) (r : Rs (Bool × List D)) (R : L2.It → Hp → Prop) : Prop := match r with
  | .ok p M1 => ∀ J H1 L Iv, Ext cs [] H H1 → MR g cs B [] H1 M1 → Walk g L J p.2 Iv → Iv H1 (NV cs B) → (∀ a ∈ L, a ∈ av cs) → (L = [] ∨ p.1 = true) → MR g cs B L H1 M1 → (∀ H' B' M', Ext cs L H1 H' → MR g cs B' L H' M' → MR g cs B' [] H' M') → R J H1
  | .ex c f M' => ∀ dd H', Ext cs [] H H' → MR g cs B [] H' M' → ExO g H' (NV cs B) f dd → Wx (.ref (g.cA c)) dd σ H'
  | .no => False
def JI (g : Glo) (X : Cx) (Wx : WX) (cl : Nat → List W → Mem → Rs W) (it : It) (tg iter : Expr) : Prop := ∀ (env : Env) (M : Mem) (σ : L2.St) (H : Hp) (cs : List CA) (B : List Addr) (R : L2.It → Hp → Prop), ER g cs H (NV cs B) env σ → MR g cs B [] H M →
  PostI g cs B Wx σ H (evIt cl it env M) R → SemI X tg iter σ H R
section
variable {g : Glo} {X : Cx} {Wx : WX} {cl : Nat → List W → Mem → Rs W} {k : Nat} {pos p p2 : Pos} {a b : E} {x y tg : Expr} {cs : List CA} {B L : List Addr}
theorem MR.lockL {H : Hp} {M : Mem} {L' : List Addr} (m : MR g cs B L H M) (k : ∀ a, a ∈ L → a ∈ L') : MR g cs B L' H M := by
  have c : ∀ {a : Addr} {d : D}, Cont g L H (NV cs B) a d → Cont g L' H (NV cs B) a d := fun h => by
    cases h with
    | lst h r => exact .lst h r
    | dK h e n r => exact .dK (h.imp id fun z => ⟨k _ z.1, z.2⟩) e n r
    | dT h e n r => exact .dT (h.imp id fun z => ⟨k _ z.1, z.2⟩) e n r
  have f : ∀ {ks : List Fd} {ds : List D} {vs : List V} {ow : List (Fd × Addr)}, Fl g L H (NV cs B) ks ds vs ow → Fl g L' H (NV cs B) ks ds vs ow := by
    intro ks ds vs ow h
    induction h with
    | nil => exact .nil
    | val e r t ih => exact .val e r ih
    | own e r t ih => exact .own e (c r) ih
  refine ⟨m.len, m.nd, fun i ca d h1 h2 => ?_, m.bt, m.dj⟩
  cases m.at_ i ca d h1 h2 with
  | c h => exact .c (c h)
  | ins hc h e e2 fl nd => exact .ins hc h e e2 (f fl) nd
/-- nothing frozen stands at the locked places: unlocked -/
theorem MR.unlockL {H : Hp} {M : Mem} (m : MR g cs B L H M) (hn : ∀ a, a ∈ L → ∀ o u, H a ≠ some (.frz o u)) : MR g cs B [] H M := by
  have at_ : ∀ {a : Addr} {u : HO}, At L H a u → At [] H a u := fun h => by
    rcases h with h | ⟨l, o, h⟩
    · exact .inl h
    · exact absurd h (hn _ l _ _)
  have c : ∀ {a : Addr} {d : D}, Cont g L H (NV cs B) a d → Cont g [] H (NV cs B) a d := fun h => by
    cases h with
    | lst h r => exact .lst h r
    | dK h e n r => exact .dK (at_ h) e n r
    | dT h e n r => exact .dT (at_ h) e n r
  have f : ∀ {ks : List Fd} {ds : List D} {vs : List V} {ow : List (Fd × Addr)}, Fl g L H (NV cs B) ks ds vs ow → Fl g [] H (NV cs B) ks ds vs ow := by
    intro ks ds vs ow h
    induction h with
    | nil => exact .nil
    | val e r t ih => exact .val e r ih
    | own e r t ih => exact .own e (c r) ih
  refine ⟨m.len, m.nd, fun i ca d h1 h2 => ?_, m.bt, m.dj⟩
  cases m.at_ i ca d h1 h2 with
  | c h => exact .c (c h)
  | ins hc h e e2 fl nd => exact .ins hc h e e2 (f fl) nd
/-- iter(x) of a list or a tuple -/
theorem pi_seq {te : TE} (he : PE X x te) : PI X tg x (fun σ H R => te σ H fun v H1 => (∃ a, v = .ref a ∧ (∃ xs, SqL X.K H1 a xs) ∧ R (Itl X.K a) H1) ∨ (∃ a, v = .ref a ∧ (∃ xs, SqT X.K H1 a xs) ∧ R (Itt X.K a) H1)) := by
  refine ⟨fun pins s σ H R I h => ?_⟩
  refine thn (he.run pins s σ H _ I h) fun v s1 ⟨x, H1, I1, r1, q1⟩ => ?_
  rcases q1 with ⟨a, e, ⟨xs, hq⟩, q⟩ | ⟨a, e, ⟨xs, hq⟩, q⟩
  · subst e
    cases r1
    obtain ⟨its, rv, p, hz⟩ := I1.list hq
    refine wpAny_pyIter_list p.isList ?_
    refine ⟨s1.heap.objs.size, [s1.heap.objs.size], _, _, H1, rfl, I1.kept (t' := s1.toks) fun b o e => Heap.get?_push_of_some _ e, turn_list a _, ⟨_, Heap.get?_push_size _ rfl, rfl, rfl⟩, fun b hb => ?_, q⟩
    have e : b = s1.heap.objs.size := by simpa using hb
    subst e
    exact I1.fpOk (Nat.le_refl _) (I1.hok.fresh (Nat.le_refl _))
  · subst e
    cases r1
    obtain ⟨its, rv, p, hz⟩ := I1.tuple hq
    refine wpAny_pyIter_tuple (show s1.heap.IsTuple a its.toArray from p) ?_
    refine ⟨s1.heap.objs.size, [s1.heap.objs.size], _, _, H1, rfl, I1.kept (t' := s1.toks) fun b o e => Heap.get?_push_of_some _ e, turn_tuple a _, ⟨_, Heap.get?_push_size _ rfl, rfl, rfl⟩, fun b hb => ?_, q⟩
    have e : b = s1.heap.objs.size := by simpa using hb
    subst e
    exact I1.fpOk (Nat.le_refl _) (I1.hok.fresh (Nat.le_refl _))
/-- a list in a word: its walk -/
theorem lst_walk {H : Hp} {M : Mem} {w : Bf.W} {v : V} {ds : List D} (m : MR g cs B [] H M) (r : RW g cs H (NV cs B) w v) (e : w.get M = some (.lst ds)) :
    ∃ a L, v = .ref a ∧ (∃ xs, SqL g.K H a xs) ∧ IvL g L a ds H (NV cs B) ∧ (∀ x ∈ L, x ∈ av cs) ∧ (L = [] ∨ isCell w = true) ∧ ∀ x ∈ L, ∃ us, H x = some (.lst us) := by
  have cell : ∀ {a : Addr}, Cont g [] H (NV cs B) a (.lst ds) → a ∈ av cs → isCell w = true → v = .ref a → ∃ a L, v = .ref a ∧ (∃ xs, SqL g.K H a xs) ∧ IvL g L a ds H (NV cs B) ∧ (∀ x ∈ L, x ∈ av cs) ∧ (L = [] ∨ isCell w = true) ∧ ∀ x ∈ L, ∃ us, H x = some (.lst us) := fun {a} h ha hw ev => by
    cases h with
    | lst h rl => exact ⟨a, [a], ev, ⟨_, SqL.of h⟩, ⟨_, rl, .inl ⟨.inl h, .inr List.mem_cons_self⟩⟩, fun x hx => (List.mem_singleton.mp hx) ▸ ha, .inr hw, fun x hx => by rw [List.mem_singleton.mp hx]; exact ⟨_, h⟩⟩
  cases r with
  | v r =>
    cases e
    cases r with
    | lst h n rl => exact ⟨_, [], rfl, ⟨_, SqL.of h⟩, ⟨_, rl, .inl ⟨.inl h, .inl n⟩⟩, fun x hx => (by cases hx), .inl rfl, fun x hx => (by cases hx)⟩
  | n h n rl =>
    cases e
    exact ⟨_, [], rfl, ⟨_, SqL.of h⟩, ⟨_, rl, .inl ⟨.inl h, .inl n⟩⟩, fun x hx => (by cases hx), .inl rfl, fun x hx => (by cases hx)⟩
  | c h =>
    rename_i i ca
    cases m.at_ _ _ _ h e with
    | c q => exact cell q (mem_av h List.mem_cons_self) rfl rfl
  | f h hq =>
    rename_i i kf ca q
    simp only [W.get] at e
    cases hM : M[i]? with
    | none => rw [hM] at e; cases e
    | some x =>
      rw [hM] at e
      cases m.at_ _ _ _ h hM with
      | c z => cases hq
      | ins hc h1 e1 e2 f nd => exact cell (Fl.look f nd hq e) (mem_av h (List.mem_cons_of_mem _ (List.mem_map.mpr ⟨_, hq, rfl⟩))) rfl rfl
theorem unl_lst {H1 : Hp} (h : ∀ x ∈ L, ∃ us, H1 x = some (.lst us)) : ∀ H' B' M', Ext cs L H1 H' → MR g cs B' L H' M' → MR g cs B' [] H' M' := fun H' B' M' ex m => m.unlockL fun a ha o u z => by
  obtain ⟨us, hu⟩ := h a ha
  rw [ex a _ hu (.inr ha)] at z
  cases z
theorem ji_e (hK : X.K = g.K) (ja : JE g X Wx cl a x) : JI g X Wx cl (.e a) tg x := fun env M σ H cs B R he m post => by
  refine SemI.of (pi_seq pe_sem) ?_
  rw [hK]
  refine ja env M σ H cs B [] _ (.inl rfl) he m ?_
  simp only [evIt] at post
  cases hr : evE cl a env M with
  | no => rw [hr] at post; exact post
  | ex c f M1 => rw [hr] at post; exact post
  | ok w M1 =>
    rw [hr] at post
    intro v H1 e1 m1 r1
    simp only [Rs.bind] at post
    cases hw : w.get M1 with
    | none => rw [hw] at post; exact post.elim
    | some d =>
      rw [hw] at post
      have rw1 := r1.rw m
      cases d with
      | lst ds =>
        obtain ⟨q, L, ev, hs, iv, h1, h2, h3⟩ := lst_walk m1 rw1 hw
        exact .inl ⟨q, ev, hs, post _ H1 L _ e1 m1 walk_lst iv h1 h2 (m1.lockL fun _ z => by cases z) (unl_lst h3)⟩
      | tup ds =>
        obtain ⟨q, us, ev, hq, n, rl⟩ := (rw1.top m1 hw).tupE
        exact .inr ⟨q, ev, ⟨_, SqT.of hq⟩, post _ H1 [] _ e1 m1 walk_tpl ⟨us, rl, hq, n⟩ (fun x hx => by cases hx) (.inl rfl) m1 (fun H' B' M' _ m' => m')⟩
      | scr ns =>
        have tp := rw1.top m1 hw
        cases tp with
        | v r =>
          cases r with
          | scr h n => exact .inl ⟨_, rfl, ⟨_, .inl h⟩, post _ H1 [] _ e1 m1 walk_lst ⟨_, Rl.ints ns, .inl ⟨h, .inl n⟩⟩ (fun x hx => by cases hx) (.inl rfl) m1 (fun H' B' M' _ m' => m')⟩
          | scrK h => exact .inl ⟨_, rfl, ⟨_, .inr h⟩, post _ H1 [] _ e1 m1 walk_lst ⟨_, Rl.ints ns, .inr h⟩ (fun x hx => by cases hx) (.inl rfl) m1 (fun H' B' M' _ m' => m')⟩
      | _ => exact post.elim
theorem ji_r1 (F : Free X "range") (hs : notStar x = true) (ja : JE g X Wx cl a x) : JI g X Wx cl (.r1 a) tg (.Call (.Name "range" p) [x] [] pos) := fun env M σ H cs B R he m post => by
  refine SemI.of (pi_range1 F.gl F.mg (pa_cons pe_sem pa_nil (star_cons hs)) (star_cons hs)) ?_
  refine ja env M σ H cs B [] _ (.inl rfl) he m ?_
  simp only [evIt] at post
  cases hr : evE cl a env M with
  | no => rw [hr] at post; exact post
  | ex c f M1 => rw [hr] at post; exact post
  | ok w M1 =>
    rw [hr] at post
    intro v H1 e1 m1 r1
    simp only [Rs.bind] at post
    cases hw : w.get M1 with
    | none => rw [hw] at post; exact post.elim
    | some d =>
      rw [hw] at post
      cases d with
      | int j =>
        simp only at post
        split at post
        · rename_i hj
          obtain rfl := ((r1.rw m).top m1 hw).int
          refine ⟨j, rfl, by omega, by omega, post _ H1 [] (fun _ _ => True) e1 m1 ?_ trivial (fun x hx => by cases hx) (.inl rfl) m1 (fun H' B' M' _ m' => m')⟩
          have z := walk_rng (g := g) (L := []) (lo := 0) (n := j.toNat)
          simp only [Int.zero_add] at z
          exact z
        · exact post.elim
      | _ => exact post.elim
theorem ji_enm (hK : X.K = g.K) (F : Free X "enumerate") {elts : List Expr} {kk : Nat} {tpos : Pos} (hs : notStar x = true) (ja : JE g X Wx cl a x) : JI g X Wx cl (.enum a) (.Tuple elts kk tpos) (.Call (.Name "enumerate" p) [x] [] pos) := fun env M σ H cs B R he m post => by
  refine SemI.of (pi_enumS F.gl F.mg (pa_cons pe_sem pa_nil (star_cons hs)) (star_cons hs)) ?_
  rw [hK]
  refine ja env M σ H cs B [] _ (.inl rfl) he m ?_
  simp only [evIt] at post
  cases hr : evE cl a env M with
  | no => rw [hr] at post; exact post
  | ex c f M1 => rw [hr] at post; exact post
  | ok w M1 =>
    rw [hr] at post
    intro v H1 e1 m1 r1
    simp only [Rs.bind] at post
    cases hw : w.get M1 with
    | none => rw [hw] at post; exact post.elim
    | some d =>
      rw [hw] at post
      cases d with
      | lst ds =>
        obtain ⟨q, L, ev, ⟨xs, hs⟩, iv, h1, h2, h3⟩ := lst_walk m1 (r1.rw m) (ds := ds) hw
        subst ev
        exact .inl ⟨q, xs, rfl, hs, post _ H1 L _ e1 m1 walk_enm iv h1 h2 (m1.lockL fun _ z => by cases z) (unl_lst h3)⟩
      | tup ds =>
        obtain ⟨q, us, ev, hq, n, rl⟩ := ((r1.rw m).top m1 hw).tupE
        subst ev
        exact .inr ⟨q, us, rfl, SqT.of hq, post _ H1 [] _ e1 m1 walk_enmT ⟨us, rl, hq, n⟩ (fun x hx => by cases hx) (.inl rfl) m1 (fun H' B' M' _ m' => m')⟩
      | _ => exact post.elim
theorem ji_r2 (F : Free X "range") {b : E} {y : Expr} (hs : notStar x = true) (hs2 : notStar y = true) (ja : JE g X Wx cl a x) (jb : JE g X Wx cl b y) : JI g X Wx cl (.r2 a b) tg (.Call (.Name "range" p) [x, y] [] pos) := fun env M σ H cs B R he m post => by
  refine SemI.of (pi_range2 F.gl F.mg (pa_cons pe_sem (pa_cons pe_sem pa_nil (star_cons hs2)) (star_cons hs)) (by rw [star_cons hs, star_cons hs2]; rfl) (star_cons hs2)) ?_
  simp only [evIt] at post
  refine ja env M σ H cs B [] _ (.inl rfl) he m ?_
  cases hr : evE cl a env M with
  | no => rw [hr] at post; exact post
  | ex c f M1 => rw [hr] at post; exact post
  | ok wa M1 =>
    rw [hr] at post
    intro v H1 e1 m1 r1
    simp only [Rs.bind] at post
    have he1 := he.keep e1.keep
    refine jb env M1 σ H1 cs B [] _ (.inl rfl) he1 m1 ?_
    cases hr2 : evE cl b env M1 with
    | no => rw [hr2] at post; exact post
    | ex c f M2 => rw [hr2] at post; exact fun dd H' e m x => post dd H' (e1.trans e) m x
    | ok wb M2 =>
      rw [hr2] at post
      intro u H2 e2 m2 r2
      simp only at post
      cases hwa : wa.get M2 with
      | none => rw [hwa] at post; exact post.elim
      | some da =>
        cases hwb : wb.get M2 with
        | none => simp only [hwa, hwb] at post; exact post.elim
        | some db =>
          cases da with
          | int i =>
            cases db with
            | int j =>
              simp only [hwa, hwb] at post
              split at post
              · rename_i hj
                obtain rfl := (((r1.rw m).keep e2.keep).top m2 hwa).int
                obtain rfl := ((r2.rw m1).top m2 hwb).int
                exact ⟨i, j, rfl, ⟨by omega, by omega, by omega, by omega⟩, post _ H2 [] (fun _ _ => True) (e1.trans e2) m2 walk_rng trivial (fun x hx => by cases hx) (.inl rfl) m2 (fun H' B' M' _ m' => m')⟩
              · exact post.elim
            | _ => simp only [hwa, hwb] at post; exact post.elim
          | _ => simp only [hwa, hwb] at post; exact post.elim
end
end Bf

set_option Elab.async false
set_option linter.all false
set_option maxHeartbeats 1000000
set_option maxRecDepth 10000
/-! [elt for target in iter if ..] -/
namespace Bf
open PySem PySem.Spec PyProof.Rows L2
def notSet : Expr → Bool
  | .Set .. => false
  | _ => true
theorem folded_of {e : Expr} {env : PySem.Env} (h : notSet e = true) : ∀ x, foldedSetIterable e env x = pure x := fun x => by
  cases e <;> first | rfl | cases h
section
variable {X : Cx} {scope : Scope}
def gU (X : Cx) (scope : Scope) (t : Expr) : TG := fun v σ H Q => ∀ s H0 C cl fp, SemG (Bk X scope s H0 C cl fp) t v σ H Q
def tU (X : Cx) (scope : Scope) (ifs : List Expr) : TT := fun σ H Q => ∀ s H0 C cl fp, SemTs (Bk X scope s H0 C cl fp) ifs σ H Q
def eU (X : Cx) (scope : Scope) (y : Expr) : TE := fun σ H Q => ∀ s H0 C cl fp, SemE (Bk X scope s H0 C cl fp) y σ H Q
theorem pe_lcU {elt tg iter : Expr} {ifs : List Expr} {own : List (PySem.Str × Nat)} {pos : Pos} (hc : X.calm = true) (hN : X.N.Nodup) (ok : BlkOk X.N X.env.scope scope own) (hs : notSet iter = true) :
    PE X (.ListComp elt [⟨tg, iter, ifs, 0⟩] scope pos) (tLc (SemI X tg iter) (gU X scope tg) (tU X scope ifs) (eU X scope elt) (own.map (·.2))) :=
  pe_lc hc hN pi_sem ok (fun s H0 C cl fp => ⟨fun pins s' σ H v u Q I r h => h s H0 C cl fp pins s' u I r⟩) (fun s H0 C cl fp => ⟨fun pins s' σ H Q I h => h s H0 C cl fp pins s' I⟩) (fun s H0 C cl fp => ⟨fun pins s' σ H Q I h => h s H0 C cl fp pins s' I⟩) (folded_of hs)
end
/-- a comprehension's wish, as a value or stored at once; the dict that is walked may be locked -/
def LcQ (X : Cx) (scope : Scope) (own : List Nat) (y t iter : Expr) (ifs : List Expr) : TE := fun σ H Q => tLc (SemI X t iter) (gU X scope t) (tU X scope ifs) (eU X scope y) own σ H Q ∨ tLockE (tLc (SemI X t iter) (gU X scope t) (tU X scope ifs) (eU X scope y) own) σ H Q
theorem LcQ.e {X : Cx} {scope : Scope} {own : List (PySem.Str × Nat)} {y t iter : Expr} {ifs : List Expr} {pos : Pos} {σ : L2.St} {H : Hp} {Q : VK} (hc : X.calm = true) (hN : X.N.Nodup) (ok : BlkOk X.N X.env.scope scope own) (hs : notSet iter = true)
    (h : LcQ X scope (own.map (·.2)) y t iter ifs σ H Q) : SemE X (.ListComp y [⟨t, iter, ifs, 0⟩] scope pos) σ H Q := by
  rcases h with h | h
  · exact SemE.of (pe_lcU hc hN ok hs) h
  · exact SemE.of (pe_lock (pe_lcU hc hN ok hs)) h
def JL (g : Glo) (X : Cx) (Wx : WX) (cl : Nat → List W → Mem → Rs W) (ir : E) (scope : Scope) (own : List Nat) (y t iter : Expr) (ifs : List Expr) : Prop := ∀ (env : Env) (M : Mem) (σ : L2.St) (H : Hp) (cs : List CA) (B : List Addr) (Q : VK), ER g cs H (NV cs B) env σ → MR g cs B [] H M →
  Post g cs B [] Wx σ (RS g cs B []) H (evE cl ir env M) Q → LcQ X scope own y t iter ifs σ H Q
theorem mapL_noex {F : D → Mem → Rs (Option D)} (hF : ∀ x M c f M', F x M ≠ .ex c f M') : ∀ {ds : List D} {M : Mem} {c : Nat} {f : D} {M' : Mem}, mapL F ds M ≠ .ex c f M'
  | [], _, _, _, _ => by intro h; cases h
  | x :: xs, M, c, f, M' => by
    intro h
    simp only [mapL] at h
    cases h1 : F x M with
    | no => rw [h1] at h; cases h
    | ex => exact hF _ _ _ _ _ h1
    | ok o M1 =>
      rw [h1] at h
      simp only [Rs.bind] at h
      cases h2 : mapL F xs M1 with
      | no => rw [h2] at h; cases h
      | ex => exact mapL_noex hF h2
      | ok ys M2 => rw [h2] at h; cases h
theorem noEx_ne {α : Type} {r : Rs α} {c : Nat} {f : D} {M : Mem} : noEx r ≠ .ex c f M := by
  cases r <;> (intro h; cases h)
theorem bind_ne {α β : Type} {r : Rs α} {F : α → Mem → Rs β} (h1 : ∀ c f M, r ≠ .ex c f M) (h2 : ∀ a M c f M', F a M ≠ .ex c f M') : ∀ c f M, r.bind F ≠ .ex c f M := fun c f M => by
  cases r with
  | ok a M1 => exact h2 a M1 c f M
  | ex => exact absurd rfl (h1 _ _ _)
  | no => intro h; cases h
theorem lcF_noex {cl : Nat → List W → Mem → Rs W} {elt : E} {tg : Tg} {cond : OE} {e : Env} : ∀ x M c f M', lcF cl elt tg cond e x M ≠ .ex c f M' := fun x M c f M' => by
  unfold lcF
  split
  · intro h; cases h
  · refine bind_ne (fun _ _ _ => noEx_ne) (fun a M c f M' => ?_) c f M'
    cases a with
    | false => intro h; cases h
    | true =>
      refine bind_ne (fun _ _ _ => noEx_ne) (fun w M c f M' => ?_) c f M'
      cases asD w with
      | none => intro h; cases h
      | some d => intro h; cases h
section
variable {g : Glo} {X : Cx} {Wx : WX} {cl : Nat → List W → Mem → Rs W} {k : Nat} {pos p p2 : Pos} {elt : E} {tg : Tg} {it : It} {cond : OE} {x y t iter : Expr} {ifs : List Expr} {cs : List CA} {B L : List Addr} {scope : Scope} {own : List (PySem.Str × Nat)}
theorem lc_eval {env : Env} {M : Mem} : evE cl (.lc elt tg it cond) env M = (evIt cl it env M).bind fun p M1 => if p.1 = true ∧ (elt.ro && cond.ro) = false then .no else (mapL (lcF cl elt tg cond env) p.2 M1).bind fun ys M2 => if ys.length ≤ LIM then .ok (.n ys) M2 else .no := by
  simp only [evE]; rfl
theorem jl_lc (G : Gd g k X) (ok : BlkOk X.N X.env.scope scope own) (hs : notSet iter = true) (ji : JI g X Wx cl it t iter) (jg : allB X scope fun Y => JG g Y tg t) (jc : allB X scope fun Y => JC g Y noX cl cond ifs) (je : allB X scope fun Y => JE g Y noX cl elt y)
    (ho1 : ∀ i, i ∈ own.map (·.2) → i ∈ tg.own) (ho2 : ∀ i, i ∈ tg.own → i ∈ own.map (·.2)) : JL g X Wx cl (.lc elt tg it cond) scope (own.map (·.2)) y t iter ifs := fun env M σ H cs B Q he m post => by
  refine .inl ?_
  rw [lc_eval] at post
  refine ji env M σ H cs B _ he m ?_
  cases hr : evIt cl it env M with
  | no => rw [hr] at post; exact post
  | ex c f M' => rw [hr] at post; exact post
  | ok p M1 =>
    rw [hr] at post
    intro J H1 L Iv e1 m1 wk iv hav hL mL unl
    have post := Post.later backs_S m1 e1 post
    simp only [Rs.bind] at post
    by_cases hro : p.1 = true ∧ (elt.ro && cond.ro) = false
    · rw [if_pos hro] at post; exact post.elim
    · rw [if_neg hro] at post
      cases hm : mapL (lcF cl elt tg cond env) p.2 M1 with
      | no => rw [hm] at post; exact post.elim
      | ex c f M' => exact absurd hm (mapL_noex lcF_noex)
      | ok ys MF =>
        rw [hm] at post
        simp only [Rs.bind] at post
        by_cases hz : ys.length ≤ LIM
        · rw [if_pos hz] at post
          refine lc_main jg jc je ho1 ho2 wk hav ?_ hm hz (he.keep e1.keep) mL iv fun D H' vs hD ex mr hDv rl => ?_
          · rcases hL with h | h
            · exact .inl h
            · exact .inr (by
                cases hh : (elt.ro && cond.ro) with
                | true => rfl
                | false => exact absurd ⟨h, hh⟩ hro)
          · have mu := unl H' (D :: B) MF ex mr
            have ex0 : Ext cs [] H1 H' := fun a o h n => ex a o h (n.imp id fun z => by cases z)
            exact post _ H' ex0 mu.unB (.n hD (mr.dj D List.mem_cons_self) hDv mu rl)
        · rw [if_neg hz] at post; exact post.elim
theorem je_lc (G : Gd g k X) (ok : BlkOk X.N X.env.scope scope own) (hs : notSet iter = true) {ir : E} (hro : ir.ro = false) (jl : JL g X Wx cl ir scope (own.map (·.2)) y t iter ifs) : JE g X Wx cl ir (.ListComp y [⟨t, iter, ifs, 0⟩] scope pos) := fun env M σ H cs B L Q hl he m post => by
  obtain rfl := noL hl hro
  exact LcQ.e G.calm G.nd ok hs (jl env M σ H cs B Q he m post)
end
end Bf

set_option Elab.async false
set_option linter.all false
set_option maxHeartbeats 1000000
set_option maxRecDepth 10000
/-! Walks over dicts: the dict is locked. -/
namespace Bf
open PySem PySem.Spec PyProof.Rows L2
def isDO : HO → Bool
  | .dK _ => true
  | .dT _ => true
  | _ => false
/-- the dict at q frozen, or thawed -/
structure Swap (q : Addr) (u : HO) (H H2 : Hp) : Prop where
  oth : ∀ a o, a ≠ q → H a = some o → H2 a = some o
  h1 : Rd H q u
  h2 : Rd H2 q u
  du : isDO u = true
section
variable {g : Glo} {cs : List CA} {B L L2 N : List Addr} {H H2 : Hp} {M : Mem} {q : Addr} {u : HO}
theorem Swap.plain (s : Swap q u H H2) {a : Addr} {o : HO} (h : H a = some o) (hp : isDO o = false) (hf : ∀ od w, o = .frz od w → isDO w = false) : H2 a = some o := by
  refine s.oth a o (fun z => ?_) h
  subst z
  rcases s.h1 with z | ⟨od, z⟩
  · rw [h] at z; cases z; rw [s.du] at hp; cases hp
  · rw [h] at z; cases z
    have := hf _ _ rfl
    rw [s.du] at this; cases this
theorem Swap.rd (s : Swap q u H H2) {a : Addr} {o : HO} (h : Rd H a o) (hp : ∀ od w, o ≠ .frz od w) (hu : ∀ od w, u ≠ .frz od w) : Rd H2 a o := by
  by_cases e : a = q
  · subst e
    have : o = u := by
      rcases h with h | ⟨od, h⟩ <;> rcases s.h1 with z | ⟨od', z⟩ <;> (rw [h] at z; cases z) <;> first | rfl | exact absurd rfl (hp _ _) | exact absurd rfl (hu _ _)
    subst this
    exact s.h2
  · rcases h with h | ⟨od, h⟩
    · exact .inl (s.oth _ _ e h)
    · exact .inr ⟨od, s.oth _ _ e h⟩
theorem Swap.nf (s : Swap q u H H2) : ∀ od w, u ≠ .frz od w := fun od w z => by
  have := s.du
  rw [z] at this; cases this
mutual
theorem Rv.swap (s : Swap q u H H2) : ∀ {d : D} {v : V}, Rv g H N d v → Rv g H2 N d v
  | _, _, .non => .non
  | _, _, .bl b => .bl b
  | _, _, .int b => .int b
  | _, _, .str b => .str b
  | _, _, .tup h n r => .tup (s.plain h rfl fun _ _ z => by cases z) n (Rl.swap s r)
  | _, _, .lst h n r => .lst (s.plain h rfl fun _ _ z => by cases z) n (Rl.swap s r)
  | _, _, .dK h n e e2 r => .dK (s.rd h (fun _ _ z => by cases z) s.nf) n e e2 (Rl.swap s r)
  | _, _, .dT h n e e2 r => .dT (s.rd h (fun _ _ z => by cases z) s.nf) n e e2 (Rl.swap s r)
  | _, _, .ins hc h n e e2 r => .ins hc (s.plain h rfl fun _ _ z => by cases z) n e e2 (Rl.swap s r)
  | _, _, .scr h n => .scr (s.rd h (fun _ _ z => by cases z) s.nf) n
  | _, _, .scrK h => .scrK h
theorem Rl.swap (s : Swap q u H H2) : ∀ {ds : List D} {vs : List V}, Rl g H N ds vs → Rl g H2 N ds vs
  | _, _, .nil => .nil
  | _, _, .cons r t => .cons (Rv.swap s r) (Rl.swap s t)
end
theorem RW.swap (s : Swap q u H H2) {w : W} {v : V} (h : RW g cs H N w v) : RW g cs H2 N w v := by
  cases h with
  | v r => exact .v (r.swap s)
  | c h => exact .c h
  | f h z => exact .f h z
  | n h n r => exact .n (s.plain h rfl fun _ _ z => by cases z) n (r.swap s)
theorem ER.swap (s : Swap q u H H2) {e : Env} {σ : _root_.L2.St} (h : ER g cs H N e σ) : ER g cs H2 N e σ := ⟨h.len, fun i w hw => let ⟨v, h1, h2⟩ := h.at_ i w hw; ⟨v, h1, h2.swap s⟩⟩
theorem MR.swap (s : Swap q u H H2) (hA : q ∈ av cs → At L2 H2 q u) (hL : ∀ a, a ∈ L → a ≠ q → a ∈ L2) (m : MR g cs B L H M) : MR g cs B L2 H2 M := by
  have at_ : ∀ {a : Addr} {w : HO}, a ∈ av cs → (∀ od w', w ≠ .frz od w') → At L H a w → At L2 H2 a w := fun {a w} ha hw h => by
    by_cases e : a = q
    · subst e
      have : w = u := by
        have h' := h.rd
        rcases h' with h | ⟨od, h⟩ <;> rcases s.h1 with z | ⟨od', z⟩ <;> (rw [h] at z; cases z) <;> first | rfl | exact absurd rfl (hw _ _) | exact absurd rfl (s.nf _ _)
      subst this
      exact hA ha
    · rcases h with h | ⟨l, o, h⟩
      · exact .inl (s.oth _ _ e h)
      · exact .inr ⟨hL _ l e, o, s.oth _ _ e h⟩
  have c : ∀ {a : Addr} {d : D}, a ∈ av cs → Cont g L H (NV cs B) a d → Cont g L2 H2 (NV cs B) a d := fun ha h => by
    cases h with
    | lst h r => exact .lst (s.plain h rfl fun _ _ z => by cases z) (r.swap s)
    | dK h e n r => exact .dK (at_ ha (fun _ _ z => by cases z) h) e n (r.swap s)
    | dT h e n r => exact .dT (at_ ha (fun _ _ z => by cases z) h) e n (r.swap s)
  have f : ∀ {ks : List Fd} {ds : List D} {vs : List V} {ow : List (Fd × Addr)}, (∀ p ∈ ow, p.2 ∈ av cs) → Fl g L H (NV cs B) ks ds vs ow → Fl g L2 H2 (NV cs B) ks ds vs ow := by
    intro ks ds vs ow ho h
    induction h with
    | nil => exact .nil
    | val e r t ih => exact .val e (r.swap s) (ih ho)
    | own e r t ih => exact .own e (c (ho _ List.mem_cons_self) r) (ih fun p hp => ho p (List.mem_cons_of_mem _ hp))
  refine ⟨m.len, m.nd, fun i ca d h1 h2 => ?_, fun b hb => ?_, m.dj⟩
  · cases m.at_ i ca d h1 h2 with
    | c h => exact .c (c (mem_av h1 List.mem_cons_self) h)
    | ins hc h e e2 fl nd => exact .ins hc (s.plain h rfl fun _ _ z => by cases z) e e2 (f (fun p hp => mem_av h1 (List.mem_cons_of_mem _ (List.mem_map.mpr ⟨p, hp, rfl⟩))) fl) nd
  · obtain ⟨vs, hv⟩ := m.bt b hb
    exact ⟨vs, s.plain hv rfl fun _ _ z => by cases z⟩
end
/-- where a dict in a word stands -/
structure Src (cs : List CA) (H : Hp) (N : List Addr) (w : W) (q : Addr) (u : HO) : Prop where
  at_ : (H q = some u ∧ ((q ∉ N ∧ isCell w = false) ∨ (q ∈ av cs ∧ isCell w = true))) ∨ (∃ o, H q = some (.frz o u) ∧ q ∉ N ∧ isCell w = false)
section
variable {g : Glo} {cs : List CA} {B N : List Addr} {H H2 : Hp} {M : Mem}
theorem Src.rd {w : W} {q : Addr} {u : HO} (s : Src cs H N w q u) : Rd H q u := by
  rcases s.at_ with ⟨h, _⟩ | ⟨o, h, _⟩
  · exact .inl h
  · exact .inr ⟨o, h⟩
theorem Src.ofRd {w : W} {q : Addr} {u : HO} (h : Rd H q u) (n : q ∉ N) (hw : isCell w = false) : Src cs H N w q u := by
  rcases h with h | ⟨o, h⟩
  · exact ⟨.inl ⟨h, .inl ⟨n, hw⟩⟩⟩
  · exact ⟨.inr ⟨o, h, n, hw⟩⟩
theorem dict_src {w : W} {v : V} {d : D} (m : MR g cs B [] H M) (r : RW g cs H (NV cs B) w v) (e : w.get M = some d) :
    (∀ ks xs, d = .dK ks xs → ∃ q kvs, v = .ref q ∧ kvs.map (·.1) = ks ∧ Rl g H (NV cs B) xs (kvs.map (·.2)) ∧ Src cs H (NV cs B) w q (.dK kvs)) ∧
    (∀ ks xs, d = .dT ks xs → ∃ q kvs, v = .ref q ∧ kvs.map (·.1) = ks ∧ Rl g H (NV cs B) xs (kvs.map (·.2)) ∧ Src cs H (NV cs B) w q (.dT kvs)) := by
  have cell : ∀ {a : Addr}, Cont g [] H (NV cs B) a d → a ∈ av cs → isCell w = true → v = .ref a → (∀ ks xs, d = .dK ks xs → ∃ q kvs, v = .ref q ∧ kvs.map (·.1) = ks ∧ Rl g H (NV cs B) xs (kvs.map (·.2)) ∧ Src cs H (NV cs B) w q (.dK kvs)) ∧
    (∀ ks xs, d = .dT ks xs → ∃ q kvs, v = .ref q ∧ kvs.map (·.1) = ks ∧ Rl g H (NV cs B) xs (kvs.map (·.2)) ∧ Src cs H (NV cs B) w q (.dT kvs)) := fun {a} h ha hw ev => by
    cases h with
    | lst => exact ⟨fun _ _ z => (by cases z), fun _ _ z => (by cases z)⟩
    | dK h ee n rl => exact ⟨fun _ _ z => by cases z; exact ⟨a, _, ev, ee, rl, ⟨.inl ⟨h.exact, .inr ⟨ha, hw⟩⟩⟩⟩, fun _ _ z => (by cases z)⟩
    | dT h ee n rl => exact ⟨fun _ _ z => (by cases z), fun _ _ z => by cases z; exact ⟨a, _, ev, ee, rl, ⟨.inl ⟨h.exact, .inr ⟨ha, hw⟩⟩⟩⟩⟩
  cases r with
  | v r =>
    cases e
    cases r with
    | dK h n e e2 rl => subst e2; exact ⟨fun _ _ z => by cases z; exact ⟨_, _, rfl, e, rl, Src.ofRd h n rfl⟩, fun _ _ z => (by cases z)⟩
    | dT h n e e2 rl => subst e2; exact ⟨fun _ _ z => (by cases z), fun _ _ z => by cases z; exact ⟨_, _, rfl, e, rl, Src.ofRd h n rfl⟩⟩
    | _ => exact ⟨fun _ _ z => (by cases z), fun _ _ z => (by cases z)⟩
  | n h n rl => cases e; exact ⟨fun _ _ z => (by cases z), fun _ _ z => (by cases z)⟩
  | c h =>
    cases m.at_ _ _ _ h e with
    | c q => exact cell q (mem_av h List.mem_cons_self) rfl rfl
    | ins => exact ⟨fun _ _ z => (by cases z), fun _ _ z => (by cases z)⟩
  | f h hq =>
    rename_i i kf ca q
    simp only [W.get] at e
    cases hM : M[i]? with
    | none => rw [hM] at e; cases e
    | some x =>
      rw [hM] at e
      cases m.at_ _ _ _ h hM with
      | c z => cases hq
      | ins hc h1 e1 e2 f nd => exact cell (Fl.look f nd hq e) (mem_av h (List.mem_cons_of_mem _ (List.mem_map.mpr ⟨_, hq, rfl⟩))) rfl rfl
end
end Bf

set_option Elab.async false
set_option linter.all false
set_option maxHeartbeats 1000000
set_option maxRecDepth 10000
/-! Walks over dicts, in comprehensions. -/
namespace Bf
open PySem PySem.Spec PyProof.Rows L2
section
variable {g : Glo} {L : List Addr} {q : Addr} {od : Obj} {ks : List Key} {xs : List D}
def IvD (g : Glo) (L : List Addr) (q : Addr) (od : Obj) (kvs : List (Key × V)) (xs : List D) : Hp → List Addr → Prop := fun H N => H q = some (.frz od (.dK kvs)) ∧ (q ∉ N ∨ q ∈ L) ∧ Rl g H N xs (kvs.map (·.2))
def IvDT (g : Glo) (L : List Addr) (q : Addr) (od : Obj) (kvs : List (List Key × V)) : Hp → List Addr → Prop := fun H N => H q = some (.frz od (.dT kvs)) ∧ (q ∉ N ∨ q ∈ L)
theorem ivd_st {kvs : List (Key × V)} : ∀ H N H' N', IvD g L q od kvs xs H N → (∀ a o, H a = some o → (a ∉ N ∨ a ∈ L) → H' a = some o) → (∀ a o, H a = some o → a ∉ N → a ∉ N') → IvD g L q od kvs xs H' N' := fun H N H' N' iv k s =>
  ⟨k _ _ iv.1 iv.2.1, iv.2.1.imp (s _ _ iv.1) id, iv.2.2.keep (keepOf k s)⟩
theorem walk_dK {kvs : List (Key × V)} : Walk g L (Itk q od kvs) ((kvs.map (·.1)).map dKey) (IvD g L q od kvs xs) where
  st := ivd_st
  go := fun i H N iv hi => ⟨iv.1, by simpa using hi⟩
  stop := fun i H N iv hi => ⟨iv.1, by simpa using hi⟩
  yld := fun i H N x H' iv _ _ y => by
    obtain ⟨rfl, k, v, e, rfl⟩ := y
    refine ⟨Grow.refl _, fun d hd => ?_⟩
    simp only [List.getElem?_map, e, Option.map_some, Option.some.injEq] at hd
    subst hd
    exact keyR k
theorem walk_dT {kvs : List (List Key × V)} : Walk g L (Itkt q od kvs) ((kvs.map (·.1)).map fun k => .tup (k.map dKey)) (IvDT g L q od kvs) where
  st := fun H N H' N' iv k s => ⟨k _ _ iv.1 iv.2, iv.2.imp (s _ _ iv.1) id⟩
  go := fun i H N iv hi => ⟨iv.1, by simpa using hi⟩
  stop := fun i H N iv hi => ⟨iv.1, by simpa using hi⟩
  yld := fun i H N x H' iv _ ft y => by
    obtain ⟨rfl, k, v, b, e, rfl, hb⟩ := y
    refine ⟨Grow.refl _, fun d hd => ?_⟩
    simp only [List.getElem?_map, e, Option.map_some, Option.some.injEq] at hd
    subst hd
    exact .tup hb (ft _ _ hb) (keysR k)
theorem zipKD_get : ∀ {ks : List Key} {xs : List D} {i : Nat} {d : D}, (zipKD ks xs)[i]? = some d → ∃ k x, ks[i]? = some k ∧ xs[i]? = some x ∧ d = .tup [dKey k, x]
  | [], _, _, _, h => by simp [zipKD] at h
  | _ :: _, [], _, _, h => by simp [zipKD] at h
  | k :: ks, x :: xs, 0, d, h => by
    simp only [zipKD, List.getElem?_cons_zero, Option.some.injEq] at h
    exact ⟨k, x, rfl, rfl, h.symm⟩
  | k :: ks, x :: xs, i + 1, d, h => by
    simp only [zipKD, List.getElem?_cons_succ] at h
    exact zipKD_get (ks := ks) (xs := xs) h
theorem zipKD_len : ∀ {ks : List Key} {xs : List D}, xs.length = ks.length → (zipKD ks xs).length = ks.length
  | [], [], _ => rfl
  | [], _ :: _, h => by cases h
  | _ :: _, [], h => by cases h
  | k :: ks, x :: xs, h => congrArg (· + 1) (zipKD_len (ks := ks) (xs := xs) (by simpa using h))
theorem walk_dI {kvs : List (Key × V)} (hl : xs.length = kvs.length) : Walk g L (Iti q od kvs) (zipKD (kvs.map (·.1)) xs) (IvD g L q od kvs xs) where
  st := ivd_st
  go := fun i H N iv hi => ⟨iv.1, by rw [zipKD_len (by simpa using hl)] at hi; simpa using hi⟩
  stop := fun i H N iv hi => ⟨iv.1, by rw [zipKD_len (by simpa using hl)] at hi; simpa using hi⟩
  yld := fun i H N x H' iv fr _ y => by
    obtain ⟨T, k, v, e, rfl, hT, rfl⟩ := y
    refine ⟨Grow.new hT, fun d hd => ?_⟩
    obtain ⟨k', x, h1, h2, rfl⟩ := zipKD_get hd
    rw [List.getElem?_map, e] at h1
    cases h1
    obtain ⟨v', h3, h4⟩ := iv.2.2.get h2
    rw [List.getElem?_map, e] at h3
    cases h3
    exact .tup upd_same (fr _ hT) (.cons (keyR k) (.cons (h4.keep (keepN hT)) .nil))
end
/-- instances stay -/
def Ins (H H2 : Hp) : Prop := ∀ a C dx fs, H a = some (.ins C dx fs) → H2 a = some (.ins C dx fs)
def JP (g : Glo) (X : Cx) (cl : Nat → List W → Mem → Rs W) (a : E) (x : Expr) : Prop := ∀ (env : Env) (M : Mem) (σ : L2.St) (H : Hp) (cs : List CA) (B L : List Addr), ER g cs H (NV cs B) env σ → MR g cs B L H M → ∀ w M', evE cl a env M = .ok w M' →
  M' = M ∧ ∃ v, RW g cs H (NV cs B) w v ∧ ∀ H2, Ins H H2 → ∀ Q : VK, Q v H2 → SemE X x σ H2 Q
section
variable {g : Glo} {X : Cx} {Wx : WX} {cl : Nat → List W → Mem → Rs W} {k : Nat} {pos p p2 : Pos} {a : E} {x : Expr}
theorem jp_var {i : Nat} {x : PySem.Str} (hN : X.N[i]? = some x) (hv : Vis X.env.scope x) (hd : (x == ("__debug__" : PySem.Str)) = false) (hcd : (x == ("__classdict__" : PySem.Str)) = false) : JP g X cl (.var i) (.Name x pos) := fun env M σ H cs B L he m w M' h => by
  simp only [evE] at h
  cases hi : env[i]? with
  | none => rw [hi] at h; cases h
  | some o =>
    cases o with
    | none => rw [hi] at h; cases h
    | some u =>
      rw [hi] at h
      obtain ⟨v, e1, r⟩ := he.at_ i u hi
      have : w = u ∧ M' = M := by
        cases u with
        | n => cases h
        | _ => cases h; exact ⟨rfl, rfl⟩
      obtain ⟨rfl, rfl⟩ := this
      exact ⟨rfl, v, r, fun H2 _ Q q => SemE.of (pe_var hN hv hd hcd) ⟨v, e1, q⟩⟩
theorem jp_fld (F : GF g X) {f : Fd} (hb : notSup x = true) (ja : JP g X cl a x) : JP g X cl (.fld a f) (.Attribute x f.nm pos) := fun env M σ H cs B L he m w M' hev => by
  simp only [evE] at hev
  obtain ⟨u, M1, h1, h2⟩ := bind_ok hev
  obtain ⟨rfl, v, r, sem⟩ := ja env M σ H cs B L he m u M1 h1
  cases hf : fldW u f M1 with
  | none => rw [hf] at h2; cases h2
  | some w' =>
    rw [hf] at h2
    cases h2
    refine ⟨rfl, ?_⟩
    have fin : ∀ {q : Addr} {c : Nat} {dx : Addr} {fvs : List (PySem.Str × V)} {z : V}, v = .ref q → H q = some (.ins (g.cA c) dx fvs) → g.has c = true → okF c f = true → fvs.lookup f.nm = some z → ∀ H2, Ins H H2 → ∀ Q : VK, Q z H2 → SemE X (.Attribute x f.nm pos) σ H2 Q := fun ev hq hc hok hz H2 ins Q qq =>
      SemE.of (pe_fld pe_sem (base_ok hb)) (sem H2 ins _ ⟨_, _, _, _, _, ev, ins _ _ _ _ hq, F.cls _ hc, F.na _ _ hc hok, hz, qq⟩)
    unfold fldW at hf
    split at hf
    · rename_i c ks ds
      split at hf
      · rename_i hok
        simp only [Option.map_eq_some_iff] at hf
        obtain ⟨d, hd, rfl⟩ := hf
        cases r with
        | v r =>
          cases r with
          | ins hc h n e e2 rl =>
            subst e2
            obtain ⟨z, hz, rz⟩ := lk_nm e rl hd
            exact ⟨z, .v rz, fin rfl h hc hok hz⟩
      · cases hf
    · rename_i i
      split at hf
      · rename_i c ks ds hM
        split at hf
        · rename_i hok
          cases r with
          | c hcs =>
            rename_i ca
            have z := m.at_ _ _ _ hcs hM
            cases z with
            | c z => cases z
            | ins hc h1 ee ee2 fl nd =>
              split at hf
              · rename_i ho
                split at hf
                · rename_i hm
                  cases hf
                  obtain ⟨u, d, hu, hd, hq⟩ := lk_fl ee ee2 fl hm
                  rw [if_pos ho] at hq
                  obtain ⟨q, rfl, hq⟩ := hq
                  exact ⟨_, .f hcs hq, fin rfl h1 hc hok hu⟩
                · cases hf
              · rename_i ho
                simp only [Option.map_eq_some_iff] at hf
                obtain ⟨d, hd, rfl⟩ := hf
                have hm : f ∈ ks := mem_look hd
                obtain ⟨u, d', hu, hd', hq⟩ := lk_fl ee ee2 fl hm
                rw [hd] at hd'; cases hd'
                rw [if_neg ho] at hq
                exact ⟨_, .v hq, fin rfl h1 hc hok hu⟩
        · cases hf
      · cases hf
    · cases hf
end
end Bf

set_option Elab.async false
set_option linter.all false
set_option maxHeartbeats 1000000
set_option maxRecDepth 10000
/-! [elt for target in d ..], [.. in d.items() ..] -/
namespace Bf
open PySem PySem.Spec PyProof.Rows L2
section
variable {g : Glo} {X : Cx} {Wx : WX} {cl : Nat → List W → Mem → Rs W} {k : Nat} {pos p p2 : Pos} {elt a : E} {tg : Tg} {cond : OE} {x y t iter : Expr} {ifs : List Expr} {cs : List CA} {B : List Addr} {scope : Scope} {own : List (PySem.Str × Nat)}
theorem ins_upd {H : Hp} {q : Addr} {u o : HO} (h : Rd H q u) (hu : isDO u = true) : Ins H (upd H q o) := fun a C dx fs ha => by
  rw [upd_ne]
  · exact ha
  · rintro rfl
    rcases h with z | ⟨od, z⟩ <;> (rw [ha] at z; cases z)
    cases hu
theorem lcD_core (jg : allB X scope fun Y => JG g Y tg t) (jc : allB X scope fun Y => JC g Y noX cl cond ifs) (je : allB X scope fun Y => JE g Y noX cl elt y)
    (ho1 : ∀ i, i ∈ own.map (·.2) → i ∈ tg.own) (ho2 : ∀ i, i ∈ tg.own → i ∈ own.map (·.2)) {env : Env} {M : Mem} {σ : L2.St} {H : Hp} {Q : VK} {w : W} {q : Addr} {u : HO} {ds : List D} {jt : Obj → L2.It} {Iv : List Addr → Obj → Hp → List Addr → Prop}
    (he : ER g cs H (NV cs B) env σ) (m : MR g cs B [] H M) (src : Src cs H (NV cs B) w q u) (hu : isDO u = true) (hmut : ∀ H : Hp, H q = some u → Mut (some u))
    (semI : ∀ H2 od R, Ins H H2 → H2 q = some (.frz od u) → R (jt od) H2 → SemI X t iter σ H2 R) (wk : ∀ od L, Walk g L (jt od) ds (Iv L od))
    (ivm : ∀ od L H2, H2 q = some (.frz od u) → (q ∉ NV cs B ∨ q ∈ L) → (∀ xs vs, Rl g H (NV cs B) xs vs → Rl g H2 (NV cs B) xs vs) → Iv L od H2 (NV cs B))
    (post : Post g cs B [] Wx σ (RS g cs B []) H (if isCell w = true ∧ (elt.ro && cond.ro) = false then .no else (mapL (lcF cl elt tg cond env) ds M).bind fun ys M2 => if ys.length ≤ LIM then .ok (.n ys) M2 else .no) Q) :
    LcQ X scope (own.map (·.2)) y t iter ifs σ H Q := by
  by_cases hro : isCell w = true ∧ (elt.ro && cond.ro) = false
  · rw [if_pos hro] at post; exact post.elim
  rw [if_neg hro] at post
  cases hm : mapL (lcF cl elt tg cond env) ds M with
  | no => rw [hm] at post; exact post.elim
  | ex c f M' => exact absurd hm (mapL_noex lcF_noex)
  | ok ys MF =>
    rw [hm] at post
    simp only [Rs.bind] at post
    by_cases hz : ys.length ≤ LIM
    · rw [if_pos hz] at post
      rcases src.at_ with ⟨hq, hcase⟩ | ⟨od, hq, hn, hw⟩
      · -- it is locked now
        refine .inr ⟨q, u, hq, hmut H hq, fun od => ?_⟩
        have hq2 : upd H q (.frz od u) q = some (.frz od u) := upd_same
        have sw : Swap q u H (upd H q (.frz od u)) := ⟨fun a o n h => by rw [upd_ne n]; exact h, .inl hq, .inr ⟨od, hq2⟩, hu⟩
        have main : ∀ L, (q ∉ NV cs B ∨ q ∈ L) → (∀ a ∈ L, a ∈ av cs) → (L = [] ∨ (elt.ro && cond.ro) = true) → (q ∈ av cs → q ∈ L) → (∀ a ∈ L, a = q) → tLc (SemI X t iter) (gU X scope t) (tU X scope ifs) (eU X scope y) (own.map (·.2)) σ (upd H q (.frz od u)) (fun v H' => H' q = some (.frz od u) ∧ Q v (upd H' q u)) := by
          intro L hqL hav hr hqa hLq
          refine semI _ od _ (ins_upd src.rd hu) hq2 ?_
          have mL : MR g cs B L (upd H q (.frz od u)) M := m.swap sw (fun z => .inr ⟨hqa z, od, hq2⟩) fun a z => by cases z
          refine lc_main (Q := fun v H' => H' q = some (.frz od u) ∧ Q v (upd H' q u)) jg jc je ho1 ho2 (wk od L) hav hr hm hz (he.swap sw) mL (ivm od L _ hq2 hqL fun xs vs r => r.swap sw) fun D H' vs hD ex mr hDv rl => ?_
          have hDq : D ≠ q := fun z => by rw [z, hq2] at hD; cases hD
          have hD0 : H D = none := by rw [upd_ne hDq] at hD; exact hD
          have hq' : H' q = some (.frz od u) := ex _ _ hq2 (hqL.imp not_av id)
          have hq3 : upd H' q u q = some u := upd_same
          have sw' : Swap q u H' (upd H' q u) := ⟨fun a o n h => by rw [upd_ne n]; exact h, .inr ⟨od, hq'⟩, .inl hq3, hu⟩
          refine ⟨hq', ?_⟩
          have mu : MR g cs (D :: B) [] (upd H' q u) MF := mr.swap sw' (fun _ => .inl hq3) fun a ha n => absurd (hLq a ha) n
          have ex0 : Ext cs [] H (upd H' q u) := fun a o h n => by
            by_cases e : a = q
            · subst e; rw [hq] at h; cases h; exact hq3
            · rw [upd_ne e]
              refine ex a o (by rw [upd_ne e]; exact h) (n.imp id fun z => by cases z)
          exact post _ _ ex0 mu.unB (.n hD0 (mr.dj D List.mem_cons_self) (by rw [upd_ne hDq]; exact hDv) mu (rl.swap sw'))
        rcases hcase with ⟨hn, hw⟩ | ⟨ha, hw⟩
        · exact main [] (.inl hn) (fun x hx => by cases hx) (.inl rfl) (fun z => absurd z (not_av hn)) fun x hx => by cases hx
        · refine main [q] (.inr List.mem_cons_self) (fun x hx => by rw [List.mem_singleton.mp hx]; exact ha) (.inr ?_) (fun _ => List.mem_cons_self) fun x hx => List.mem_singleton.mp hx
          cases hh : (elt.ro && cond.ro) with
          | true => rfl
          | false => exact absurd ⟨hw, hh⟩ hro
      · -- it was locked before
        refine .inl ?_
        refine semI H od _ (fun _ _ _ _ h => h) hq ?_
        refine lc_main jg jc je ho1 ho2 (wk od []) (fun x hx => by cases hx) (.inl rfl) hm hz he m (ivm od [] _ hq (.inl hn) fun _ _ r => r) fun D H' vs hD ex mr hDv rl => ?_
        exact post _ H' ex mr.unB (.n hD (mr.dj D List.mem_cons_self) hDv mr rl)
    · rw [if_neg hz] at post; exact post.elim
theorem post_path {β : Type} {env : Env} {M : Mem} {r : Rs W} {f : W → Mem → Rs β} {γ : Type} {rel : Hp → Hp → Mem → β → γ → Prop} {H : Hp} {σ : L2.St} {Q : γ → Hp → Prop} (hne : ∀ w M', r = .ok w M' → M' = M) (hx : ∀ c f M', r ≠ .ex c f M') (post : Post g cs B [] Wx σ rel H (r.bind f) Q) : ∃ w, r = .ok w M ∧ Post g cs B [] Wx σ rel H (f w M) Q := by
  cases r with
  | ok w M1 =>
    have := hne w M1 rfl
    subst this
    exact ⟨w, rfl, post⟩
  | ex => exact absurd rfl (hx _ _ _)
  | no => exact post.elim
theorem path_noex {env : Env} {M : Mem} (h : isPath a = true) : ∀ c f M', evE cl a env M ≠ .ex c f M' := by
  have var : ∀ i c f M', evE cl (.var i) env M ≠ .ex c f M' := fun i c f M' => by
    simp only [evE]
    split
    · intro h; cases h
    · intro h; cases h
    · intro h; cases h
  intro c f M'
  cases a with
  | var i => exact var i c f M'
  | fld b gg =>
    cases b with
    | var i =>
      simp only [evE]
      refine bind_ne (fun c f M => by have := var i c f M; simp only [evE] at this; exact this) (fun w M c f M' => ?_) c f M'
      cases fldW w gg M with
      | none => intro h; cases h
      | some u => intro h; cases h
    | _ => cases h
  | _ => cases h
theorem jl_lcKeys (jp : JP g X cl a x) (jg : allB X scope fun Y => JG g Y tg t) (jc : allB X scope fun Y => JC g Y noX cl cond ifs) (je : allB X scope fun Y => JE g Y noX cl elt y)
    (ho1 : ∀ i, i ∈ own.map (·.2) → i ∈ tg.own) (ho2 : ∀ i, i ∈ tg.own → i ∈ own.map (·.2)) : JL g X Wx cl (.lc elt tg (.keys a) cond) scope (own.map (·.2)) y t x ifs := fun env M σ H cs B Q he m post => by
  rw [lc_eval] at post
  cases hpa : isPath a with
  | false => simp only [evIt, hpa, Rs.bind] at post; exact post.elim
  | true =>
    cases hr : evE cl a env M with
    | no => simp only [evIt, hpa, hr, Rs.bind] at post; exact post.elim
    | ex => exact absurd hr (path_noex hpa _ _ _)
    | ok w M1 =>
      obtain ⟨rfl, v, rw1, sem⟩ := jp env M σ H cs B [] he m w M1 hr
      simp only [evIt, hpa, hr, Rs.bind] at post
      cases hw : w.get M1 with
      | none => rw [hw] at post; exact post.elim
      | some d =>
        rw [hw] at post
        obtain ⟨d1, d2⟩ := dict_src m rw1 hw
        cases d with
        | dK ks xs =>
          obtain ⟨q, kvs, rfl, ek, rl, src⟩ := d1 ks xs rfl
          subst ek
          exact lcD_core jg jc je ho1 ho2 (jt := fun od => Itk q od kvs) (Iv := fun L od => IvD g L q od kvs xs) he m src rfl (fun H h => by trivial)
            (fun H2 od R ins h2 hR => SemI.of (pi_keys pe_sem) (sem H2 ins _ ⟨q, od, rfl, .inl ⟨kvs, h2, hR⟩⟩)) (fun od L => walk_dK) (fun od L H2 h2 hn kr => ⟨h2, hn, kr _ _ rl⟩) post
        | dT ks xs =>
          obtain ⟨q, kvs, rfl, ek, rl, src⟩ := d2 ks xs rfl
          subst ek
          exact lcD_core jg jc je ho1 ho2 (jt := fun od => Itkt q od kvs) (Iv := fun L od => IvDT g L q od kvs) he m src rfl (fun H h => by trivial)
            (fun H2 od R ins h2 hR => SemI.of (pi_keys pe_sem) (sem H2 ins _ ⟨q, od, rfl, .inr ⟨kvs, h2, hR⟩⟩)) (fun od L => walk_dT) (fun od L H2 h2 hn kr => ⟨h2, hn⟩) post
        | _ => exact post.elim
theorem jl_lcItems {elts : List Expr} {kk : Nat} {tpos apos cpos : Pos} (hb : notSup x = true) (hline : (apos.endLine == cpos.line) = true) (jp : JP g X cl a x) (jg : allB X scope fun Y => JG g Y tg (.Tuple elts kk tpos)) (jc : allB X scope fun Y => JC g Y noX cl cond ifs) (je : allB X scope fun Y => JE g Y noX cl elt y)
    (ho1 : ∀ i, i ∈ own.map (·.2) → i ∈ tg.own) (ho2 : ∀ i, i ∈ tg.own → i ∈ own.map (·.2)) : JL g X Wx cl (.lc elt tg (.items a) cond) scope (own.map (·.2)) y (.Tuple elts kk tpos) (.Call (.Attribute x "items" apos) [] [] cpos) ifs := fun env M σ H cs B Q he m post => by
  rw [lc_eval] at post
  cases hpa : isPath a with
  | false => simp only [evIt, hpa, Rs.bind] at post; exact post.elim
  | true =>
    cases hr : evE cl a env M with
    | no => simp only [evIt, hpa, hr, Rs.bind] at post; exact post.elim
    | ex => exact absurd hr (path_noex hpa _ _ _)
    | ok w M1 =>
      obtain ⟨rfl, v, rw1, sem⟩ := jp env M σ H cs B [] he m w M1 hr
      simp only [evIt, hpa, hr, Rs.bind] at post
      cases hw : w.get M1 with
      | none => rw [hw] at post; exact post.elim
      | some d =>
        rw [hw] at post
        obtain ⟨d1, d2⟩ := dict_src m rw1 hw
        cases d with
        | dK ks xs =>
          obtain ⟨q, kvs, rfl, ek, rl, src⟩ := d1 ks xs rfl
          subst ek
          exact lcD_core jg jc je ho1 ho2 (jt := fun od => Iti q od kvs) (Iv := fun L od => IvD g L q od kvs xs) he m src rfl (fun H h => by trivial)
            (fun H2 od R ins h2 hR => SemI.of (pi_items pe_sem (base_ok hb) hline) (sem H2 ins _ ⟨q, od, kvs, rfl, h2, hR⟩)) (fun od L => walk_dI (by have := rl.length; simpa using this.symm)) (fun od L H2 h2 hn kr => ⟨h2, hn, kr _ _ rl⟩) post
        | _ => exact post.elim
end
end Bf

set_option Elab.async false
set_option linter.all false
set_option maxHeartbeats 1000000
set_option maxRecDepth 10000
/-! [elt for target in iter for target1 in iter1] -/
namespace Bf
open PySem PySem.Spec PyProof.Rows L2
theorem tyes_if {σ : L2.St} {H : Hp} {A C : Hp → Prop} (h : A H) : tYes σ H (fun b H' => if b = true then A H' else C H') := h
def lc2G (cl : Nat → List W → Mem → Rs W) (elt : E) (tg2 : Tg) (e1 : Env) : D → Mem → Rs (Option D) := fun y M4 => match bindT tg2 y (wipeE e1 tg2.own) with
  | none => .no
  | some e2 => (noEx (evE cl elt e2 M4)).bind fun w M5 => match asD w with
    | some d => .ok (some d) M5
    | none => .no
def lc2F (cl : Nat → List W → Mem → Rs W) (elt : E) (tg tg2 : Tg) (it2 : It) (e : Env) : D → Mem → Rs (List D) := fun x M2 => match bindT tg x (wipeE e (tg.own ++ tg2.own)) with
  | none => .no
  | some e1 => (noEx (evIt cl it2 e1 M2)).bind fun q M3 => if q.1 = true then .no else mapL (lc2G cl elt tg2 e1) q.2 M3
theorem lc2G_noex {cl : Nat → List W → Mem → Rs W} {elt : E} {tg : Tg} {e : Env} : ∀ x M c f M', lc2G cl elt tg e x M ≠ .ex c f M' := fun x M c f M' => by
  unfold lc2G
  split
  · intro h; cases h
  · refine bind_ne (fun _ _ _ => noEx_ne) (fun w M c f M' => ?_) c f M'
    cases asD w with
    | none => intro h; cases h
    | some d => intro h; cases h
theorem lc2F_noex {cl : Nat → List W → Mem → Rs W} {elt : E} {tg tg2 : Tg} {it2 : It} {e : Env} : ∀ x M c f M', lc2F cl elt tg tg2 it2 e x M ≠ .ex c f M' := fun x M c f M' => by
  unfold lc2F
  split
  · intro h; cases h
  · refine bind_ne (fun _ _ _ => noEx_ne) (fun w M c f M' => ?_) c f M'
    split
    · intro h; cases h
    · exact mapL_noex lc2G_noex
theorem catL_noex {F : D → Mem → Rs (List D)} (hF : ∀ x M c f M', F x M ≠ .ex c f M') : ∀ {ds : List D} {M : Mem} {c : Nat} {f : D} {M' : Mem}, catL F ds M ≠ .ex c f M'
  | [], _, _, _, _ => by intro h; cases h
  | x :: xs, M, c, f, M' => by
    simp only [catL]
    refine bind_ne (fun _ _ _ => hF _ _ _ _ _) (fun o M1 c f M' => bind_ne (fun _ _ _ => catL_noex hF) (fun ys M2 c f M' h => by cases h) c f M') c f M'
section
variable {g : Glo} {X : Cx} {Wx : WX} {cl : Nat → List W → Mem → Rs W} {k : Nat} {pos : Pos} {elt : E} {tg tg2 : Tg} {it it2 : It} {x y t t2 iter iter2 : Expr} {cs : List CA} {B L : List Addr} {scope : Scope} {own : List (PySem.Str × Nat)} {vs1 : List Nat}
/-- the inner walk -/
theorem lc2_in (jg2 : allB X scope fun Y => JG g Y tg2 t2) (je : allB X scope fun Y => JE g Y noX cl elt y) (hv1 : ∀ i, i ∈ vs1 → i ∈ tg2.own) (hv2 : ∀ i, i ∈ tg2.own → i ∈ vs1)
    {J1 : L2.It} {ds : List D} {Iv : Hp → List Addr → Prop} {H1 H4 : Hp} {D : Addr} {M3 M4 : Mem} {zs : List Bf.D} {ys : List Bf.D} {vs : List V} {e1 : Env} {σ2 : L2.St} {n : Nat} {Nx : Hp → Prop} (wk : Walk g [] J1 ds Iv) (hm : mapL (lc2G cl elt tg2 e1) ds M3 = .ok zs M4) (hz : ys.length + zs.length ≤ LIM)
    (hD : H1 D = none) (ex : Ext cs [] H1 H4) (er : ER g cs H4 (NV cs (D :: B)) e1 σ2) (mr : MR g cs (D :: B) [] H4 M3) (iv : Iv H4 (NV cs (D :: B))) (hDv : H4 D = some (.lst vs)) (rl : Rl g H4 (NV cs (D :: B)) ys vs)
    (fin : ∀ H' us, Keep H4 (NV cs (D :: B)) H' (NV cs (D :: B)) → Ext cs [] H1 H' → MR g cs (D :: B) [] H' M4 → H' D = some (.lst us) → Rl g H' (NV cs (D :: B)) (ys ++ zs) us → Nx H') :
    ∃ W1 : Nat → Nat → Hp → Prop, (∃ m, W1 0 m H4) ∧ ∀ j k H, W1 j k H → (J1.stop j H ∧ Nx H) ∨ (J1.go j H ∧ ∃ Nx1 : Hp → Prop, (∀ H', Nx1 H' → ∃ k', k' < k ∧ W1 (j + 1) k' H') ∧ ∀ x H', J1.yld j H x H' → (∀ s H0 C cl0 fp, SemG (Bk X scope s H0 C cl0 fp) t2 x (L2.wipe σ2 vs1) H' fun σ3 H5 => L2.wipe σ3 vs1 = L2.wipe σ2 vs1 ∧
      tYes σ3 H5 fun b H6 => if b = true then ∀ s H0 C cl0 fp, SemE (Bk X scope s H0 C cl0 fp) y σ3 H6 fun u H7 => ∃ acc, H7 D = some (.lst acc) ∧ acc.length < sizeLine ∧ Nx1 (upd H7 D (.lst (acc ++ [u]))) else Nx1 H6)) := by
  -- cells and other data from H4 on: only D is written
  let Wv : Nat → Nat → Hp → Prop := fun i m H => m = ds.length - i ∧ i ≤ ds.length ∧ ∃ M qs us, Iv H (NV cs (D :: B)) ∧ Ext cs [] H1 H ∧ Keep H4 (NV cs (D :: B)) H (NV cs (D :: B)) ∧ MR g cs (D :: B) [] H M ∧ H D = some (.lst us) ∧ Rl g H (NV cs (D :: B)) qs us ∧
    (mapL (lc2G cl elt tg2 e1) (ds.drop i) M).bind (fun zs M2 => .ok (qs ++ zs) M2) = .ok (ys ++ zs) M4
  refine ⟨Wv, ⟨ds.length, rfl, Nat.zero_le _, M3, ys, vs, iv, ex, Keep.refl, mr, hDv, rl, ?_⟩, ?_⟩
  · rw [List.drop_zero, hm]; rfl
  · rintro i m H ⟨rfl, hi, M, qs, us, iv, ex, kp, mr, hDv, rl, hrest⟩
    have hDB : D ∈ D :: B := List.mem_cons_self
    have hDav : D ∉ av cs := mr.dj D hDB
    by_cases hlt : i < ds.length
    · refine .inr ⟨wk.go i H _ iv hlt, fun H' => Wv (i + 1) (ds.length - (i + 1)) H', fun H' h => ⟨_, by omega, h⟩, fun x H' hy s0 H00 C0 cl0 fp0 => ?_⟩
      obtain ⟨gr, rv⟩ := wk.yld i H _ x H' iv (fun p hp => not_NV mr hp) (fun p xs hp => tup_NV mr hp) hy
      have rv := rv _ (List.getElem?_eq_getElem hlt)
      rw [List.drop_eq_getElem_cons hlt] at hrest
      simp only [mapL] at hrest
      obtain ⟨zz, M9, h1, h2⟩ := bind_ok hrest
      obtain ⟨o, M5, h3, h4⟩ := bind_ok h1
      obtain ⟨zs2, M6, h5, h6⟩ := bind_ok h4
      cases h6
      have h2' : qs ++ optC o zs2 = ys ++ zs ∧ M9 = M4 := by
        injection h2 with a b
        exact ⟨a, b⟩
      obtain ⟨h2a, h2b⟩ := h2'
      unfold lc2G at h3
      cases hb : bindT tg2 ds[i] (wipeE e1 tg2.own) with
      | none => rw [hb] at h3; cases h3
      | some e2 =>
        rw [hb] at h3
        obtain ⟨w, M7, h9, h10⟩ := bind_ok h3
        have h9 := noEx_ok h9
        have x1 : Ext cs [] H H' := gr.ext
        have mr1 := gr.mr mr
        have er1 : ER g cs H' (NV cs (D :: B)) e1 σ2 := (er.keep kp).keep x1.keep
        refine jg2 s0 H00 C0 cl0 fp0 ds[i] x (wipeE e1 tg2.own) e2 (L2.wipe σ2 vs1) H' cs (NV cs (D :: B)) _ rv (er1.wipes hv1) hb fun σ3 er3 sm => ⟨?_, ?_⟩
        · exact ((Same.wiped (vs := vs1)).trans (sm.mono hv2)).wipe
        · refine tyes_if ?_
          intro s3 H03 C3 cl3 fp3
          refine je s3 H03 C3 cl3 fp3 e2 M σ3 H' cs (D :: B) [] _ (.inl rfl) er3 mr1 ?_
          rw [h9]
          intro u H7 x7 mr7 rs7
          cases hw : asD w with
          | none => rw [hw] at h10; cases h10
          | some d' =>
            rw [hw] at h10
            cases h10
            have x17 := x1.trans x7
            have hD7 := x17 _ _ hDv (.inl hDav)
            have rvu : Rv g H7 (NV cs (D :: B)) d' u := asD_rv (rs7.rw mr1) hw
            have kD : Keep H7 (NV cs (D :: B)) (upd H7 D (.lst (us ++ [u]))) (NV cs (D :: B)) := keepW (List.mem_append_right _ hDB)
            have rl7 := ((rl.keep x17.keep).append (.cons rvu .nil)).keep kD
            refine ⟨us, hD7, ?_, ?_⟩
            · rw [rl.length]
              have hq : (qs ++ optC (some d') zs2).length = ys.length + zs.length := by rw [h2a, List.length_append]
              have hq2 : qs.length + 1 ≤ LIM := by
                rw [List.length_append] at hq
                have : (optC (some d') zs2).length = zs2.length + 1 := rfl
                omega
              have := sz_lim hq2
              omega
            · refine ⟨rfl, hlt, M5, qs ++ [d'], us ++ [u], ?_, ?_, ?_, mr7.excl hDB, upd_same, rl7, ?_⟩
              · refine wk.st _ _ _ _ (wk.st _ _ _ _ iv (fun a o h n => x17 a o h (n.imp not_av id)) fun a o h n => n) (fun a o h n => ?_) fun a o h n => n
                rw [upd_ne]
                · exact h
                · rintro rfl
                  rcases n with n | n
                  · exact n (List.mem_append_right _ hDB)
                  · cases n
              · intro a o h n
                rw [upd_ne (ne_of_none h hD)]
                exact (ex.trans x17) a o h n
              · refine ⟨fun a o h n => ?_, fun a o h n => n⟩
                exact kD.keep _ _ (x17.keep.keep _ _ (kp.keep _ _ h n) n) n
              · rw [h5]
                show Rs.ok ((qs ++ [d']) ++ zs2) _ = _
                rw [List.append_assoc, ← h2a, h2b]; rfl
    · have hi2 : i = ds.length := by omega
      subst hi2
      rw [List.drop_length] at hrest
      simp only [mapL, Rs.bind, List.append_nil] at hrest
      injection hrest with a b
      subst a; subst b
      exact .inl ⟨wk.stop _ H _ iv (Nat.le_refl _), fin H us kp ex mr hDv rl⟩
theorem lc2_main (jg : allB X scope fun Y => JG g Y tg t) (ji2 : allB X scope fun Y => JI g Y noX cl it2 t2 iter2) (jg2 : allB X scope fun Y => JG g Y tg2 t2) (je : allB X scope fun Y => JE g Y noX cl elt y)
    (ho1 : ∀ i, i ∈ own.map (·.2) → i ∈ tg.own ++ tg2.own) (ho2 : ∀ i, i ∈ tg.own → i ∈ own.map (·.2)) (hv1 : ∀ i, i ∈ vs1 → i ∈ tg2.own) (hv2 : ∀ i, i ∈ tg2.own → i ∈ vs1)
    {J : L2.It} {ds : List D} {Iv : Hp → List Addr → Prop} {H1 : Hp} {M1 MF : Mem} {ysF : List D} {env : Env} {σ : L2.St} {Q : VK} (wk : Walk g [] J ds Iv)
    (hm : catL (lc2F cl elt tg tg2 it2 env) ds M1 = .ok ysF MF) (hz : ysF.length ≤ LIM) (he : ER g cs H1 (NV cs B) env σ) (m1 : MR g cs B [] H1 M1) (iv1 : Iv H1 (NV cs B))
    (fin : ∀ D H' vs, H1 D = none → Ext cs [] H1 H' → MR g cs (D :: B) [] H' MF → H' D = some (.lst vs) → Rl g H' (NV cs (D :: B)) ysF vs → Q (.ref D) H') :
    ∀ D, H1 D = none → ∃ W : Nat → Nat → Hp → Prop, (∃ m, W 0 m (upd H1 D (.lst []))) ∧ ∀ i m H, W i m H →
      (J.stop i H ∧ Q (.ref D) H) ∨ (J.go i H ∧ ∃ Nx : Hp → Prop, (∀ H', Nx H' → ∃ m', m' < m ∧ W (i + 1) m' H') ∧ ∀ x H', J.yld i H x H' → (∀ s H0 C cl0 fp, SemG (Bk X scope s H0 C cl0 fp) t x (L2.wipe σ (own.map (·.2))) H' fun σ2 H2 => L2.wipe σ2 (own.map (·.2)) = L2.wipe σ (own.map (·.2)) ∧
        tYes σ2 H2 fun b H3 => if b = true then ∀ s H0 C cl0 fp, SemI (Bk X scope s H0 C cl0 fp) t2 iter2 σ2 H3 fun J1 H4 => ∃ W1 : Nat → Nat → Hp → Prop, (∃ m, W1 0 m H4) ∧ ∀ j k H, W1 j k H → (J1.stop j H ∧ Nx H) ∨ (J1.go j H ∧ ∃ Nx1 : Hp → Prop, (∀ H', Nx1 H' → ∃ k', k' < k ∧ W1 (j + 1) k' H') ∧ ∀ x H', J1.yld j H x H' → (∀ s H0 C cl0 fp, SemG (Bk X scope s H0 C cl0 fp) t2 x (L2.wipe σ2 vs1) H' fun σ3 H5 => L2.wipe σ3 vs1 = L2.wipe σ2 vs1 ∧
          tYes σ3 H5 fun b H6 => if b = true then ∀ s H0 C cl0 fp, SemE (Bk X scope s H0 C cl0 fp) y σ3 H6 fun u H7 => ∃ acc, H7 D = some (.lst acc) ∧ acc.length < sizeLine ∧ Nx1 (upd H7 D (.lst (acc ++ [u]))) else Nx1 H6)) else Nx H3)) := by
  intro D hD
  let Wv : Nat → Nat → Hp → Prop := fun i m H => m = ds.length - i ∧ i ≤ ds.length ∧ ∃ M ys vs, Iv H (NV cs (D :: B)) ∧ Ext cs [] H1 H ∧ MR g cs (D :: B) [] H M ∧ H D = some (.lst vs) ∧ Rl g H (NV cs (D :: B)) ys vs ∧
    (catL (lc2F cl elt tg tg2 it2 env) (ds.drop i) M).bind (fun zs M2 => .ok (ys ++ zs) M2) = .ok ysF MF
  refine ⟨Wv, ⟨ds.length, rfl, Nat.zero_le _, M1, [], [], ?_, Ext.upd hD, m1.freshB hD, upd_same, .nil, ?_⟩, ?_⟩
  · exact wk.st _ _ _ _ iv1 (fun a o h _ => by rw [upd_ne (ne_of_none h hD)]; exact h) (freshBK (u := .lst []) hD).sub
  · rw [List.drop_zero, hm]; rfl
  · rintro i m H ⟨rfl, hi, M, ys, vs, iv, ex, mr, hDv, rl, hrest⟩
    have hDB : D ∈ D :: B := List.mem_cons_self
    have hDav : D ∉ av cs := mr.dj D hDB
    by_cases hlt : i < ds.length
    · refine .inr ⟨wk.go i H _ iv hlt, fun H' => Wv (i + 1) (ds.length - (i + 1)) H', fun H' h => ⟨_, by omega, h⟩, fun x H' hy s0 H00 C0 cl0 fp0 => ?_⟩
      obtain ⟨gr, rv⟩ := wk.yld i H _ x H' iv (fun p hp => not_NV mr hp) (fun p xs hp => tup_NV mr hp) hy
      have rv := rv _ (List.getElem?_eq_getElem hlt)
      rw [List.drop_eq_getElem_cons hlt] at hrest
      simp only [catL] at hrest
      obtain ⟨zz, M9, h1, h2⟩ := bind_ok hrest
      obtain ⟨o, M5, h3, h4⟩ := bind_ok h1
      obtain ⟨zs2, M6, h5, h6⟩ := bind_ok h4
      cases h6
      have h2' : ys ++ (o ++ zs2) = ysF ∧ M9 = MF := by
        injection h2 with a b
        exact ⟨a, b⟩
      obtain ⟨h2a, h2b⟩ := h2'
      unfold lc2F at h3
      cases hb : bindT tg ds[i] (wipeE env (tg.own ++ tg2.own)) with
      | none => rw [hb] at h3; cases h3
      | some e1 =>
        rw [hb] at h3
        obtain ⟨qq, M3, h7, h8⟩ := bind_ok h3
        have h7 := noEx_ok h7
        by_cases hq1 : qq.1 = true
        · rw [if_pos hq1] at h8; cases h8
        · rw [if_neg hq1] at h8
          have x1 : Ext cs [] H H' := gr.ext
          have mr1 := gr.mr mr
          have he1 : ER g cs H' (NV cs (D :: B)) env σ := he.keep (keepD hD (ex.trans x1))
          refine jg s0 H00 C0 cl0 fp0 ds[i] x (wipeE env (tg.own ++ tg2.own)) e1 (L2.wipe σ (own.map (·.2))) H' cs (NV cs (D :: B)) _ rv (he1.wipes ho1) hb ?_
          intro σ2 er2 sm
          refine ⟨?_, ?_⟩
          · exact ((Same.wiped (vs := own.map (·.2))).trans (sm.mono ho2)).wipe
          · refine tyes_if ?_
            intro s3 H03 C3 cl3 fp3
            refine ji2 s3 H03 C3 cl3 fp3 e1 M σ2 H' cs (D :: B) _ er2 mr1 ?_
            rw [h7]
            intro J1 H4 L1 Iv1 e4 m4 wk1 iv4 _ hL1 _ _
            have hL : L1 = [] := hL1.resolve_right hq1
            subst hL
            have x14 := x1.trans e4
            refine lc2_in jg2 je hv1 hv2 (ys := ys) (n := 0) wk1 h8 ?_ hD (ex.trans x14) (er2.keep e4.keep) m4 iv4 (x14 _ _ hDv (.inl hDav)) (rl.keep x14.keep) fun H5 us kp5 ex5 mr5 hD5 rl5 => ?_
            · rw [← h2a, List.length_append, List.length_append] at hz
              omega
            · refine ⟨rfl, hlt, M5, ys ++ o, us, ?_, ex5, mr5, hD5, rl5, ?_⟩
              · exact wk.st _ _ _ _ iv (fun a o h n => kp5.keep _ _ (x14.keep.keep _ _ h (n.resolve_right fun z => by cases z)) (n.resolve_right fun z => by cases z)) fun a o h n => n
              · rw [h5]
                show Rs.ok ((ys ++ o) ++ zs2) _ = _
                rw [List.append_assoc, h2a, h2b]
    · have hi2 : i = ds.length := by omega
      subst hi2
      rw [List.drop_length] at hrest
      simp only [catL, Rs.bind, List.append_nil] at hrest
      injection hrest with a b
      subst a; subst b
      exact .inl ⟨wk.stop _ H _ iv (Nat.le_refl _), fin D H vs hD ex mr hDv rl⟩
def iU (X : Cx) (scope : Scope) (t iter : Expr) : TI := fun σ H R => ∀ s H0 C cl fp, SemI (Bk X scope s H0 C cl fp) t iter σ H R
theorem lc2_eval {env : Env} {M : Mem} : evE cl (.lc2 elt tg it tg2 it2) env M = (evIt cl it env M).bind fun p M1 => if p.1 = true then .no else (catL (lc2F cl elt tg tg2 it2 env) p.2 M1).bind fun ys M2 => if ys.length ≤ LIM then .ok (.n ys) M2 else .no := by
  simp only [evE]; rfl
def Lc2Q (X : Cx) (scope : Scope) (own vs1 : List Nat) (y t iter t2 iter2 : Expr) : TE := tLc2 (SemI X t iter) (gU X scope t) tYes (iU X scope t2 iter2) (gU X scope t2) tYes (eU X scope y) own vs1
theorem Lc2Q.e (hc : X.calm = true) (hN : X.N.Nodup) (ok : BlkOk X.N X.env.scope scope own) (hs : notSet iter = true) (hs2 : notSet iter2 = true) (hv : ∀ i, i ∈ vs1 → i ∈ own.map (·.2)) {σ : L2.St} {H : Hp} {Q : VK} (h : Lc2Q X scope (own.map (·.2)) vs1 y t iter t2 iter2 σ H Q) :
    SemE X (.ListComp y [⟨t, iter, [], 0⟩, ⟨t2, iter2, [], 0⟩] scope pos) σ H Q :=
  SemE.of (pe_lc2 hc hN pi_sem ok hv (fun s H0 C cl fp => ⟨fun pins s' σ H v u Q I r h => h s H0 C cl fp pins s' u I r⟩) (fun s H0 C cl fp => pts_nil)
    (fun s H0 C cl fp => ⟨fun pins s' σ H R I h => h s H0 C cl fp pins s' I⟩) (fun s H0 C cl fp => ⟨fun pins s' σ H v u Q I r h => h s H0 C cl fp pins s' u I r⟩) (fun s H0 C cl fp => pts_nil) (fun s H0 C cl fp => ⟨fun pins s' σ H Q I h => h s H0 C cl fp pins s' I⟩) (folded_of hs) (fun env => folded_of hs2)) h
def JL2 (g : Glo) (X : Cx) (Wx : WX) (cl : Nat → List W → Mem → Rs W) (ir : E) (scope : Scope) (own vs1 : List Nat) (y t iter t2 iter2 : Expr) : Prop := ∀ (env : Env) (M : Mem) (σ : L2.St) (H : Hp) (cs : List CA) (B : List Addr) (Q : VK), ER g cs H (NV cs B) env σ → MR g cs B [] H M →
  Post g cs B [] Wx σ (RS g cs B []) H (evE cl ir env M) Q → Lc2Q X scope own vs1 y t iter t2 iter2 σ H Q
theorem jl_lc2 (ji : JI g X Wx cl it t iter) (jg : allB X scope fun Y => JG g Y tg t) (ji2 : allB X scope fun Y => JI g Y noX cl it2 t2 iter2) (jg2 : allB X scope fun Y => JG g Y tg2 t2) (je : allB X scope fun Y => JE g Y noX cl elt y)
    (ho1 : ∀ i, i ∈ own.map (·.2) → i ∈ tg.own ++ tg2.own) (ho2 : ∀ i, i ∈ tg.own → i ∈ own.map (·.2)) (ho3 : ∀ i, i ∈ tg2.own → i ∈ own.map (·.2)) : JL2 g X Wx cl (.lc2 elt tg it tg2 it2) scope (own.map (·.2)) tg2.own y t iter t2 iter2 := fun env M σ H cs B Q he m post => by
  rw [lc2_eval] at post
  refine ji env M σ H cs B _ he m ?_
  cases hr : evIt cl it env M with
  | no => rw [hr] at post; exact post
  | ex c f M' => rw [hr] at post; exact post
  | ok p M1 =>
    rw [hr] at post
    intro J H1 L Iv e1 m1 wk iv hav hL mL unl
    have post := Post.later backs_S m1 e1 post
    simp only [Rs.bind] at post
    by_cases hro : p.1 = true
    · rw [if_pos hro] at post; exact post.elim
    · rw [if_neg hro] at post
      have hL := hL.resolve_right hro
      subst hL
      cases hm : catL (lc2F cl elt tg tg2 it2 env) p.2 M1 with
      | no => rw [hm] at post; exact post.elim
      | ex c f M' => exact absurd hm (catL_noex lc2F_noex)
      | ok ys MF =>
        rw [hm] at post
        simp only [Rs.bind] at post
        by_cases hz : ys.length ≤ LIM
        · rw [if_pos hz] at post
          exact lc2_main jg ji2 jg2 je ho1 ho2 (fun i h => h) (fun i h => h) wk hm hz (he.keep e1.keep) m1 iv fun D H' vs hD ex mr hDv rl =>
            post _ H' ex mr.unB (.n hD (mr.dj D List.mem_cons_self) hDv mr rl)
        · rw [if_neg hz] at post; exact post.elim
theorem je_lc2 (G : Gd g k X) (ok : BlkOk X.N X.env.scope scope own) (hs : notSet iter = true) (hs2 : notSet iter2 = true) (hv : ∀ i, i ∈ vs1 → i ∈ own.map (·.2)) {ir : E} (hro : ir.ro = false) (jl : JL2 g X Wx cl ir scope (own.map (·.2)) vs1 y t iter t2 iter2) : JE g X Wx cl ir (.ListComp y [⟨t, iter, [], 0⟩, ⟨t2, iter2, [], 0⟩] scope pos) := fun env M σ H cs B L Q hl he m post => by
  obtain rfl := noL hl hro
  exact Lc2Q.e G.calm G.nd ok hs hs2 hv (jl env M σ H cs B Q he m post)
end
end Bf

set_option Elab.async false
set_option linter.all false
set_option maxHeartbeats 1000000
set_option maxRecDepth 10000
/-! Statements. -/
namespace Bf
open PySem PySem.Spec PyProof.Rows L2
/-- what a return hands back: also a list of what is the def's own -/
def RT (g : Glo) (n0 : Nat) (cs : List CA) (B : List Addr) (H H' : Hp) (M' : Mem) (w : W) (v : V) : Prop := RS g cs B [] H H' M' w v ∨ ∃ d, w = .v d ∧ Rv g H' (NV (cs.take n0) B) d v
def PostS (g : Glo) (n0 : Nat) (cs : List CA) (B : List Addr) (Wx : WX) (H : Hp) (r : Rt) (D : Ends) : Prop := match r with
  | .nx e M' => ∀ cs' σ' H', Step n0 cs cs' H H' → ER g cs' H' (NV cs' B) e σ' → MR g cs' B [] H' M' → D.nx σ' H'
  | .rt w M' => ∀ cs' v H', Step n0 cs cs' H H' → MR g cs' B [] H' M' → RT g n0 cs' B H H' M' w v → D.rt v H'
  | .ex c f e M' => ∀ cs' dd σ' H', Step n0 cs cs' H H' → ER g cs' H' (NV cs' B) e σ' → MR g cs' B [] H' M' → ExO g H' (NV cs' B) f dd → Wx (.ref (g.cA c)) dd σ' H'
  | .no => False
section
variable (g : Glo) (X : Cx) (Wx : WX) (cl : Nat → List W → Mem → Rs W) (n0 : Nat)
def JS (ir : S) (st : Stmt) : Prop := ∀ (env : Env) (M : Mem) (σ : L2.St) (H : Hp) (cs : List CA) (B : List Addr) (D : Ends), n0 ≤ cs.length → ER g cs H (NV cs B) env σ → MR g cs B [] H M → PostS g n0 cs B Wx H (evS cl n0 ir env M) D → SemS X st D σ H
def JSs (ir : Ss) (st : List Stmt) : Prop := ∀ (env : Env) (M : Mem) (σ : L2.St) (H : Hp) (cs : List CA) (B : List Addr) (D : Ends), n0 ≤ cs.length → ER g cs H (NV cs B) env σ → MR g cs B [] H M → PostS g n0 cs B Wx H (evSs cl n0 ir env M) D → SemSs X st D σ H
end
section
variable {g : Glo} {X : Cx} {Wx : WX} {cl : Nat → List W → Mem → Rs W} {n0 k : Nat} {pos p p2 : Pos} {a b c : E} {x y z : Expr} {cs cs1 : List CA} {B : List Addr} {H H1 : Hp} {M M1 : Mem} {σ : L2.St} {D : Ends} {env : Env} {r : Rt}
theorem RS.backS {cs' : List CA} {H' : Hp} {M' : Mem} {w : W} {v : V} (m1 : MR g cs1 B [] H1 M1) (s : Step n0 cs cs1 H H1) (h : RS g cs' B [] H1 H' M' w v) : RS g cs' B [] H H' M' w v := by
  cases h with
  | v h => exact .v h
  | c h => exact .c h
  | f h q => exact .f h q
  | n h a b c d => exact .n (s.back m1 h) a b c d
theorem PostS.later (m1 : MR g cs1 B [] H1 M1) (s : Step n0 cs cs1 H H1) (h : PostS g n0 cs B Wx H r D) : PostS g n0 cs1 B Wx H1 r D := by
  cases r with
  | nx e M' => exact fun cs' σ' H' t er m => h cs' σ' H' (s.trans t) er m
  | rt w M' => exact fun cs' v H' t m rs => h cs' v H' (s.trans t) m (rs.imp (fun z => z.backS m1 s) id)
  | ex c f e M' => exact fun cs' dd σ' H' t er m x => h cs' dd σ' H' (s.trans t) er m x
  | no => exact h
theorem Step.length {cs' : List CA} {H' : Hp} (s : Step n0 cs cs' H H') : cs.length ≤ cs'.length := by
  by_cases h : cs.length = 0
  · omega
  · obtain ⟨ca, h1, _⟩ := s.gro (cs.length - 1) cs[cs.length - 1] (List.getElem?_eq_getElem (by omega))
    have := (List.getElem?_eq_some_iff.mp h1).1
    omega
theorem onR_post {α β : Type} {rel : Hp → Hp → Mem → α → β → Prop} {q : Rs α} {f : α → Mem → Rt} (he : ER g cs H (NV cs B) env σ) (h : PostS g n0 cs B Wx H (onR q env f) D) :
    Post g cs B [] Wx σ rel H q (fun b H1 => ∃ a M1, Ext cs [] H H1 ∧ MR g cs B [] H1 M1 ∧ rel H H1 M1 a b ∧ PostS g n0 cs B Wx H1 (f a M1) D) := by
  cases q with
  | ok a M' => exact fun b H' e m r => ⟨a, M', e, m, r, PostS.later m (.of e) h⟩
  | ex c f M' => exact fun dd H' e m x => h cs dd σ H' (.of e) (he.keep e.keep) m x
  | no => exact h
/-- a value in a statement: new lists are values -/
theorem toV_postS {q : Rs W} {f : W → Mem → Rt} (he : ER g cs H (NV cs B) env σ) (m : MR g cs B [] H M) (h : PostS g n0 cs B Wx H (onR (toV q) env f) D) :
    Post g cs B [] Wx σ (RS g cs B []) H q (fun b H1 => ∃ a M1, Ext cs [] H H1 ∧ MR g cs B [] H1 M1 ∧ RS g cs B [] H H1 M1 a b ∧ PostS g n0 cs B Wx H1 (f a M1) D) := toV_post m (onR_post (rel := RS g cs B []) he h)
/-! ### sequences -/
theorem jss_nil : JSs g X Wx cl n0 .nil [] := fun env M σ H cs B D hn he m post => SemSs.of pss_nil (post cs σ H .refl he m)
theorem thenR_post {r : Rt} {f : Env → Mem → Rt} (h : PostS g n0 cs B Wx H (thenR r f) D) : PostS g n0 cs B Wx H r { D with nx := fun σ1 H1 => ∃ cs1 e1 M1, Step n0 cs cs1 H H1 ∧ ER g cs1 H1 (NV cs1 B) e1 σ1 ∧ MR g cs1 B [] H1 M1 ∧ PostS g n0 cs1 B Wx H1 (f e1 M1) D } := by
  cases r with
  | nx e M' => exact fun cs' σ' H' s er m => ⟨cs', e, M', s, er, m, PostS.later m s h⟩
  | rt w M' => exact h
  | ex c f e M' => exact h
  | no => exact h
theorem SemS.mono {st : Stmt} {D' : Ends} (h : SemS X st D σ H) (q : ∀ σ' H', D.nx σ' H' → D'.nx σ' H') (e1 : D.rt = D'.rt) (e2 : D.bk = D'.bk) (e3 : D.ct = D'.ct) : SemS X st D' σ H := fun pins s I => thn (h pins s I) fun f s1 hs => by
  cases f with
  | next => obtain ⟨σ', H', I', z⟩ := hs; exact ⟨σ', H', I', q σ' H' z⟩
  | brk => obtain ⟨σ', H', I', z⟩ := hs; exact ⟨σ', H', I', by rw [← e2]; exact z⟩
  | cont => obtain ⟨σ', H', I', z⟩ := hs; exact ⟨σ', H', I', by rw [← e3]; exact z⟩
  | ret v => obtain ⟨y, σ', H', I', rv, z⟩ := hs; exact ⟨y, σ', H', I', rv, by rw [← e1]; exact z⟩
theorem jss_cons {s : S} {ss : Ss} {st : Stmt} {sts : List Stmt} (h1 : JS g X Wx cl n0 s st) (h2 : JSs g X Wx cl n0 ss sts) : JSs g X Wx cl n0 (.cons s ss) (st :: sts) := fun env M σ H cs B D hn he m post => by
  refine SemSs.of (pss_cons ps_sem pss_sem) ?_
  simp only [evSs] at post
  refine (h1 env M σ H cs B _ hn he m (thenR_post post)).mono (fun σ1 H1 ⟨cs1, e1, M1, s1, er1, m1, p1⟩ => ?_) rfl rfl rfl
  exact h2 e1 M1 σ1 H1 cs1 B D (Nat.le_trans hn s1.length) er1 m1 p1
/-! ### small statements -/
theorem js_pass : JS g X Wx cl n0 .pass (.Pass pos) := fun env M σ H cs B D hn he m post => SemS.of ps_pass (by
  simp only [evS] at post
  exact post cs σ H .refl he m)
theorem js_dead {st : Stmt} : JS g X Wx cl n0 .dead st := fun env M σ H cs B D hn he m post => by
  simp only [evS] at post
  exact post.elim
theorem js_ret (ja : JE g X Wx cl a x) : JS g X Wx cl n0 (.ret a) (.Return (some x) pos) := fun env M σ H cs B D hn he m post => by
  refine SemS.of (ps_ret pe_sem) ?_
  simp only [evS] at post
  refine ja env M σ H cs B [] _ (.inl rfl) he m ?_
  cases hr : evE cl a env M with
  | ok w M' => rw [hr] at post; exact fun v H' e m r => post cs v H' (.of e) m (.inl r)
  | ex c f M' => rw [hr] at post; exact fun dd H' e m z => post cs dd σ H' (.of e) (he.keep e.keep) m z
  | no => rw [hr] at post; exact post
theorem js_retN : JS g X Wx cl n0 .retN (.Return none pos) := fun env M σ H cs B D hn he m post => by
  refine SemS.of ps_retN ?_
  simp only [evS] at post
  exact post cs .non H .refl m (.inl (.v .non))
theorem js_ite {ia ib : Ss} {sa sb : List Stmt} (jc : JT g X Wx cl c x) (ja : JSs g X Wx cl n0 ia sa) (jb : JSs g X Wx cl n0 ib sb) : JS g X Wx cl n0 (.ite c ia ib) (.If x sa sb pos) := fun env M σ H cs B D hn he m post => by
  refine SemS.of (ps_if pt_sem pss_sem pss_sem) ?_
  simp only [evS] at post
  refine (jc env M σ H cs B [] _ (.inl rfl) he m (onR_post (rel := relB) he post)).mono fun kk H1 ⟨k1, M1, e1, m1, r1, p1⟩ => ?_
  obtain rfl : k1 = kk := r1
  cases k1 with
  | true => rw [if_pos rfl]; exact ja env M1 σ H1 cs B D hn (he.keep e1.keep) m1 p1
  | false => rw [if_neg (by decide)]; exact jb env M1 σ H1 cs B D hn (he.keep e1.keep) m1 p1
def notLc : Expr → Bool
  | .ListComp .. => false
  | .SetComp .. => false
  | .DictComp .. => false
  | _ => true
theorem swaps_no {e : Expr} {t : Option Expr} {l : Nat} {env : PySem.Env} (h : notLc e = true) : swapsWith e t l env = pure false := by
  cases e <;> first | rfl | cases h
theorem js_ex (hl : notLc x = true) (ja : JE g X Wx cl a x) : JS g X Wx cl n0 (.ex a) (.Expr x pos) := fun env M σ H cs B D hn he m post => by
  refine SemS.of (ps_expr pe_sem (swaps_no hl)) ?_
  simp only [evS] at post
  refine (ja env M σ H cs B [] _ (.inl rfl) he m (onR_post (rel := RS g cs B []) he post)).mono fun v H1 ⟨w, M1, e1, m1, r1, p1⟩ => ?_
  exact p1 cs σ H1 .refl (he.keep e1.keep) m1
/-! ### name = value -/
theorem js_set {i : Nat} {nm : PySem.Str} (G : Gd g k X) (st : Stor X i nm) (hl : notLc x = true) (ja : JE g X Wx cl a x) : JS g X Wx cl n0 (.set i a) (.Assign [.Name nm p] x pos) := fun env M σ H cs B D hn he m post => by
  refine SemS.of (ps_set G.nd st.ix st.loc pe_sem (swaps_no hl) st.fn) ?_
  simp only [evS] at post
  refine (ja env M σ H cs B [] _ (.inl rfl) he m (toV_postS he m post)).mono fun v H1 ⟨w, M1, e1, m1, r1, p1⟩ => ?_
  have he1 := he.keep e1.keep
  cases w with
  | f => exact p1.elim
  | v d => exact p1 cs _ H1 .refl (he1.set (r1.rw m)) m1
  | c j => exact p1 cs _ H1 .refl (he1.set (r1.rw m)) m1
  | n xs => exact p1 cs _ H1 .refl (he1.set (r1.rw m)) m1
/-- what swaps: a comprehension stored at once in a local name -/
def swapsB (x : Expr) (nm : PySem.Str) (p pos : Pos) (env : PySem.Env) : Prop := swapsWith x (some (.Name nm p)) pos.line env = pure true
theorem ps_setLcQ {i : Nat} {nm : PySem.Str} {y t iter : Expr} {ifs : List Expr} {scope : Scope} {own : List (PySem.Str × Nat)} {p2 : Pos} (G : Gd g k X) (st : Stor X i nm) (hloc : X.env.scope.names.lookup nm = some .local) (ok : BlkOk X.N X.env.scope scope own) (hs : notSet iter = true)
    (hsw : swapsWith (.ListComp y [⟨t, iter, ifs, 0⟩] scope p2) (some (.Name nm p)) pos.line X.env = pure true) (h : LcQ X scope (own.map (·.2)) y t iter ifs σ H (fun v H1 => D.nx (σ.set i (some v)) H1)) : SemS X (.Assign [.Name nm p] (.ListComp y [⟨t, iter, ifs, 0⟩] scope p2) pos) D σ H := by
  have ps : PS X (.Assign [.Name nm p] (.ListComp y [⟨t, iter, ifs, 0⟩] scope p2) pos) (tAsg (tLc (SemI X t iter) (gU X scope t) (tU X scope ifs) (eU X scope y) (own.map (·.2))) (gName i)) :=
    ps_setLc G.calm G.nd st.ix hloc hsw pi_sem ok (fun s H0 C cl fp => ⟨fun pins s' σ H v u Q I r h => h s H0 C cl fp pins s' u I r⟩) (fun s H0 C cl fp => ⟨fun pins s' σ H Q I h => h s H0 C cl fp pins s' I⟩) (fun s H0 C cl fp => ⟨fun pins s' σ H Q I h => h s H0 C cl fp pins s' I⟩) (folded_of hs)
  rcases h with h | h
  · exact SemS.of ps h
  · obtain ⟨d, u, hd, mu, h⟩ := h
    exact SemS.of (ps_lock ps) ⟨d, u, hd, mu, fun od => h od⟩
theorem js_setLc {i : Nat} {nm : PySem.Str} {y t iter : Expr} {ifs : List Expr} {scope : Scope} {own : List (PySem.Str × Nat)} {p2 : Pos} {ir : E} (G : Gd g k X) (st : Stor X i nm) (hloc : X.env.scope.names.lookup nm = some .local) (ok : BlkOk X.N X.env.scope scope own) (hs : notSet iter = true)
    (hsw : swapsWith (.ListComp y [⟨t, iter, ifs, 0⟩] scope p2) (some (.Name nm p)) pos.line X.env = pure true) (jl : JL g X Wx cl ir scope (own.map (·.2)) y t iter ifs) : JS g X Wx cl n0 (.set i ir) (.Assign [.Name nm p] (.ListComp y [⟨t, iter, ifs, 0⟩] scope p2) pos) := fun env M σ H cs B D hn he m post => by
  refine ps_setLcQ G st hloc ok hs hsw ?_
  simp only [evS] at post
  refine jl env M σ H cs B _ he m (Post.mono (toV_postS he m post) fun v H1 ⟨w, M1, e1, m1, r1, p1⟩ => ?_)
  have he1 := he.keep e1.keep
  cases w with
  | f => exact p1.elim
  | v d => exact p1 cs _ H1 .refl (he1.set (r1.rw m)) m1
  | c j => exact p1 cs _ H1 .refl (he1.set (r1.rw m)) m1
  | n xs => exact p1 cs _ H1 .refl (he1.set (r1.rw m)) m1
end
end Bf

set_option Elab.async false
set_option linter.all false
set_option maxHeartbeats 1000000
set_option maxRecDepth 10000
/-! for target in iter: .. -/
namespace Bf
open PySem PySem.Spec PyProof.Rows L2
def lpF (cl : Nat → List W → Mem → Rs W) (n0 : Nat) (tg : Tg) (body : Ss) : D → Env → Mem → Rt := fun x v1 M2 => match bindT tg x v1 with
  | some v2 => evSs cl n0 body v2 M2
  | none => .no
section
variable {g : Glo} {X : Cx} {Wx : WX} {cl : Nat → List W → Mem → Rs W} {n0 k : Nat} {pos p p2 : Pos} {tg : Tg} {it : It} {body : Ss} {t iter : Expr} {sts : List Stmt} {cs : List CA} {B : List Addr}
theorem PostS.mono {H : Hp} {r : Rt} {D D' : Ends} (h : PostS g n0 cs B Wx H r D) (q : ∀ σ' H', D.nx σ' H' → D'.nx σ' H') (e : D.rt = D'.rt) : PostS g n0 cs B Wx H r D' := by
  cases r with
  | nx e M' => exact fun cs' σ' H' s er m => q _ _ (h cs' σ' H' s er m)
  | rt w M' => exact fun cs' v H' s m rs => by rw [← e]; exact h cs' v H' s m rs
  | ex c f e M' => exact h
  | no => exact h
theorem loop_main (jg : JG g X tg t) (jb : JSs g X Wx cl n0 body sts) {J : L2.It} {ds : List D} {Iv : Hp → List Addr → Prop} {H1 : Hp} {M1 : Mem} {env : Env} {σ : L2.St} {D : Ends} (wk : Walk g [] J ds Iv) (hn : n0 ≤ cs.length)
    (he : ER g cs H1 (NV cs B) env σ) (m1 : MR g cs B [] H1 M1) (iv1 : Iv H1 (NV cs B)) (post : PostS g n0 cs B Wx H1 (loopR (lpF cl n0 tg body) ds env M1) D) :
    ∃ W : Nat → Nat → L2.St → Hp → Prop, (∃ m, W 0 m σ H1) ∧ ∀ i m σ H, W i m σ H →
      (J.stop i H ∧ D.nx σ H) ∨ (J.go i H ∧ ∃ N : L2.St → Hp → Prop, (∀ σ' H', N σ' H' → ∃ m', m' < m ∧ W (i + 1) m' σ' H') ∧ ∀ x H', J.yld i H x H' → SemG X t x σ H' fun σ2 H2 => SemSs X sts { D with nx := N, ct := N, bk := D.nx } σ2 H2) := by
  let Wv : Nat → Nat → L2.St → Hp → Prop := fun i m σ H => m = ds.length - i ∧ i ≤ ds.length ∧ ∃ cs' e M, Iv H (NV cs' B) ∧ Step n0 cs cs' H1 H ∧ ER g cs' H (NV cs' B) e σ ∧ MR g cs' B [] H M ∧ PostS g n0 cs' B Wx H (loopR (lpF cl n0 tg body) (ds.drop i) e M) D
  refine ⟨Wv, ⟨ds.length, rfl, Nat.zero_le _, cs, env, M1, iv1, .refl, he, m1, by rw [List.drop_zero]; exact post⟩, ?_⟩
  rintro i m σ H ⟨rfl, hi, cs', e, M, iv, st, er, mr, pr⟩
  by_cases hlt : i < ds.length
  · refine .inr ⟨wk.go i H _ iv hlt, fun σ' H' => Wv (i + 1) (ds.length - (i + 1)) σ' H', fun σ' H' h => ⟨_, by omega, h⟩, fun x H' hy => ?_⟩
    obtain ⟨gr, rv⟩ := wk.yld i H _ x H' iv (fun p hp => not_NV mr hp) (fun p xs hp => tup_NV mr hp) hy
    have rv := rv _ (List.getElem?_eq_getElem hlt)
    rw [List.drop_eq_getElem_cons hlt] at pr
    simp only [loopR] at pr
    have x1 : Ext cs' [] H H' := gr.ext
    have mr1 := gr.mr mr
    have pr := PostS.later mr1 (.of x1) (thenR_post pr)
    unfold lpF at pr
    cases hb : bindT tg ds[i] e with
    | none => rw [hb] at pr; exact pr.elim
    | some e2 =>
      rw [hb] at pr
      refine jg ds[i] x e e2 σ H' cs' (NV cs' B) _ rv (er.keep x1.keep) hb fun σ2 er2 _ => ?_
      refine jb e2 M σ2 H' cs' B _ (Nat.le_trans hn st.length) er2 mr1 (pr.mono (fun σ3 H3 ⟨cs3, e3, M3, s3, er3, m3, p3⟩ => ?_) rfl)
      refine ⟨rfl, hlt, cs3, e3, M3, ?_, st.trans s3, er3, m3, p3⟩
      exact wk.st _ _ _ _ iv (fun a o h n => s3.ext a o h (.inl (not_av (n.resolve_right fun z => by cases z)))) fun a o h n => s3.keep.sub _ _ h n
  · have hi2 : i = ds.length := by omega
    subst hi2
    rw [List.drop_length] at pr
    simp only [loopR] at pr
    exact .inl ⟨wk.stop _ H _ iv (Nat.le_refl _), pr cs' σ H .refl er mr⟩
theorem js_loop (G : Gd g k X) (hp : PassesOwn (model X.prog X.w) X.A X.env X.xe) (hs : notSet iter = true) (ji : JI g X Wx cl it t iter) (jg : JG g X tg t) (jb : JSs g X Wx cl n0 body sts) : JS g X Wx cl n0 (.loop tg it body) (.For t iter sts [] pos) := fun env M σ H cs B D hn he m post => by
  refine SemS.of (ps_for hp G.calm pi_sem pg_sem pss_sem (folded_of hs)) ?_
  simp only [evS] at post
  refine ji env M σ H cs B _ he m ?_
  cases hr : evIt cl it env M with
  | no => rw [hr] at post; exact post
  | ex c f M' => rw [hr] at post; exact fun dd H' e m z => post cs dd σ H' (.of e) (he.keep e.keep) m z
  | ok p M1 =>
    rw [hr] at post
    intro J H1 L Iv e1 m1 wk iv hav hL mL unl
    simp only [onR] at post
    by_cases hro : p.1 = true
    · rw [if_pos hro] at post; exact post.elim
    · rw [if_neg hro] at post
      have hL := hL.resolve_right hro
      subst hL
      exact loop_main jg jb wk hn (he.keep e1.keep) m1 iv (PostS.later m1 (.of e1) post)
end
end Bf

set_option Elab.async false
set_option linter.all false
set_option maxHeartbeats 1000000
set_option maxRecDepth 10000
/-! Statements that change things. -/
namespace Bf
open PySem PySem.Spec PyProof.Rows L2
section
variable {g : Glo} {X : Cx} {Wx : WX} {cl : Nat → List W → Mem → Rs W} {n0 k : Nat} {pos p p2 apos cpos : Pos} {a b c : E} {x y z : Expr} {cs : List CA} {B : List Addr}
/-- a change through a word -/
theorem chg_ok {H : Hp} {M M' : Mem} {w : W} {v : V} {f : D → Option D} (m : MR g cs B [] H M) (r : RW g cs H (NV cs B) w v) (h : chg w f M = some M') (hp : ∀ d d', f d = some d' → plainC d = true) :
    ∃ d d' q, w.get M = some d ∧ f d = some d' ∧ v = .ref q ∧ q ∈ av cs ∧ Cont g [] H (NV cs B) q d ∧ ∀ o, Cont g [] (upd H q o) (NV cs B) q d' → MR g cs B [] (upd H q o) M' ∧ Ext cs [] H (upd H q o) := by
  unfold chg at h
  cases hw : w.get M with
  | none => rw [hw] at h; cases h
  | some d =>
    rw [hw] at h
    cases hf : f d with
    | none => simp only [hf] at h; cases h
    | some d' =>
      simp only [hf] at h
      obtain ⟨q, ev, hav, hc, wr⟩ := wr_ok m r hw h (hp _ _ hf)
      exact ⟨d, d', q, rfl, hf, ev, hav, hc, wr⟩
theorem nxO_post {H : Hp} {o : Option Mem} {env : Env} {D : Ends} (h : PostS g n0 cs B Wx H (nxO env o) D) : ∃ M', o = some M' ∧ PostS g n0 cs B Wx H (.nx env M') D := by
  cases o with
  | none => exact h.elim
  | some M' => exact ⟨M', rfl, h⟩
theorem appD_plain {y : D} : ∀ d d', appD d y = some d' → plainC d = true := fun d d' h => by
  cases d with
  | lst => rfl
  | _ => cases h
theorem extD_plain {y : D} : ∀ d d', extD d y = some d' → plainC d = true := fun d d' h => by
  cases d with
  | lst => rfl
  | _ => cases h
theorem putD_plain {k y : D} : ∀ d d', putD d k y = some d' → plainC d = true := fun d d' h => by
  cases d with
  | lst => rfl
  | dK => rfl
  | dT => rfl
  | _ => cases h
/-- a list word at a bound method -/
theorem tyV_lst {H : Hp} {N : List Addr} {v : V} {ds : List D} (h : Top g H N (.lst ds) v) {K : W.Frag} : tyV K "list" v H := by
  obtain ⟨q, us, rfl, hq, _⟩ := h.lstE
  exact .inl ⟨rfl, us, SqL.of hq⟩
theorem js_app (h1 : notSup x = true) (h2 : notStar y = true) (h4 : (apos.endLine == cpos.line) = true) (ja : JE g X Wx cl a x) (jb : JE g X Wx cl b y) : JS g X Wx cl n0 (.app a b) (.Expr (.Call (.Attribute x "append" apos) [y] [] cpos) pos) := fun env M σ H cs B D hn he m post => by
  refine SemS.of (ps_expr (pe_bm PySem.F.plainAttrs_list PySem.F.slot_list_append PySem.F.type_list_append mt_append pe_sem (pa_cons pe_sem pa_nil (one_star h2)) (base_ok h1) (by rw [one_star h2]; rfl) h4 (one_star h2) rfl) (swaps_no rfl)) ?_
  simp only [evS] at post
  refine (ja env M σ H cs B [] _ (.inl rfl) he m (onR_post (rel := RS g cs B []) he post)).mono fun v H1 ⟨w, M1, e1, m1, r1, p1⟩ => ?_
  have he1 := he.keep e1.keep
  cases hw1 : w.get M1 with
  | none => rw [hw1] at p1; exact p1.elim
  | some d1 =>
    rw [hw1] at p1
    cases d1 with
    | lst ds1 =>
      refine ⟨tyV_lst ((r1.rw m).top m1 hw1), (jb env M1 σ H1 cs B [] _ (.inl rfl) he1 m1 (onR_post (rel := RS g cs B []) he1 p1)).mono fun u H2 ⟨wy, M2, e2, m2, r2, p2⟩ => ?_⟩
      cases hy : asD wy with
      | none => rw [hy] at p2; exact p2.elim
      | some yd =>
        rw [hy] at p2
        obtain ⟨M3, h3, p3⟩ := nxO_post p2
        obtain ⟨d, d', q, hw, hf, ev, hav, hc, wr⟩ := chg_ok m2 ((r1.rw m).keep e2.keep) h3 appD_plain
        cases hc with
        | lst hq rl =>
          rename_i us ds
          simp only [appD] at hf
          split at hf
          · rename_i hz
            cases hf
            have hk : Keep H2 (NV cs B) (upd H2 q (.lst (us ++ [u]))) (NV cs B) := keepW (List.mem_append_left _ hav)
            have ry := asD_rv (r2.rw m1) hy
            obtain ⟨m3, e3⟩ := wr (.lst (us ++ [u])) (.lst upd_same ((rl.append (.cons ry .nil)).keep hk))
            refine ⟨q, us, u, ev, rfl, hq, ?_, p3 cs σ _ (.of e3) ((he1.keep e2.keep).keep e3.keep) m3⟩
            rw [rl.length]
            have := sz_lim (n := ds.length + 1) (by omega)
            omega
          · cases hf
        | dK => cases hf
        | dT => cases hf
    | _ => exact p1.elim
theorem js_extnd (h1 : notSup x = true) (h2 : notStar y = true) (h4 : (apos.endLine == cpos.line) = true) (ja : JE g X Wx cl a x) (jb : JE g X Wx cl b y) : JS g X Wx cl n0 (.extnd a b) (.Expr (.Call (.Attribute x "extend" apos) [y] [] cpos) pos) := fun env M σ H cs B D hn he m post => by
  refine SemS.of (ps_expr (pe_bm PySem.F.plainAttrs_list PySem.F.slot_list_extend PySem.F.type_list_extend mt_extend pe_sem (pa_cons pe_sem pa_nil (one_star h2)) (base_ok h1) (by rw [one_star h2]; rfl) h4 (one_star h2) rfl) (swaps_no rfl)) ?_
  simp only [evS] at post
  refine (ja env M σ H cs B [] _ (.inl rfl) he m (onR_post (rel := RS g cs B []) he post)).mono fun v H1 ⟨w, M1, e1, m1, r1, p1⟩ => ?_
  have he1 := he.keep e1.keep
  cases hw1 : w.get M1 with
  | none => rw [hw1] at p1; exact p1.elim
  | some d1 =>
    rw [hw1] at p1
    cases d1 with
    | lst ds1 =>
      refine ⟨tyV_lst ((r1.rw m).top m1 hw1), (jb env M1 σ H1 cs B [] _ (.inl rfl) he1 m1 (onR_post (rel := RS g cs B []) he1 p1)).mono fun u H2 ⟨wy, M2, e2, m2, r2, p2⟩ => ?_⟩
      cases hy : asD wy with
      | none => rw [hy] at p2; exact p2.elim
      | some yd =>
        rw [hy] at p2
        obtain ⟨M3, h3, p3⟩ := nxO_post p2
        obtain ⟨d, d', q, hw, hf, ev, hav, hc, wr⟩ := chg_ok m2 ((r1.rw m).keep e2.keep) h3 extD_plain
        cases hc with
        | lst hq rl =>
          rename_i us ds
          have ry := asD_rv (r2.rw m1) hy
          cases yd with
          | lst ys =>
            simp only [extD] at hf
            split at hf
            · rename_i hz
              cases hf
              cases ry with
              | @lst bq ws _ hb nb rb =>
                have hk : Keep H2 (NV cs B) (upd H2 q (.lst (us ++ ws))) (NV cs B) := keepW (List.mem_append_left _ hav)
                obtain ⟨m3, e3⟩ := wr (.lst (us ++ ws)) (.lst upd_same ((rl.append rb).keep hk))
                exact ⟨q, bq, us, ws, ev, rfl, hq, hb, by rw [rl.length, rb.length]; exact sz_lim hz, p3 cs σ _ (.of e3) ((he1.keep e2.keep).keep e3.keep) m3⟩
            · cases hf
          | _ => cases hf
        | dK => cases hf
        | dT => cases hf
    | _ => exact p1.elim
end
end Bf

set_option Elab.async false
set_option linter.all false
set_option maxHeartbeats 1000000
set_option maxRecDepth 10000
/-! New cells. -/
namespace Bf
open PySem PySem.Spec PyProof.Rows L2
section
variable {g : Glo} {n0 : Nat} {cs : List CA} {B : List Addr} {H H0 : Hp} {M : Mem}
/-- an exclusive place becomes a cell -/
theorem MR.adopt {p : Addr} {d : D} (m : MR g cs (p :: B) [] H M) (hp : p ∉ B) (hc : Cont g [] H (NV cs (p :: B)) p d) : MR g (cs ++ [⟨p, []⟩]) B [] H (M ++ [d]) := by
  have sub : ∀ a, a ∈ NV (cs ++ [⟨p, []⟩]) B → a ∈ NV cs (p :: B) := fun a ha => by
    rcases List.mem_append.mp ha with z | z
    · rw [av_app, List.mem_append, av_one] at z
      rcases z with z | z
      · exact List.mem_append_left _ z
      · rcases List.mem_cons.mp z with z | z
        · rw [z]; exact List.mem_append_right _ List.mem_cons_self
        · cases z
    · exact List.mem_append_right _ (List.mem_cons_of_mem _ z)
  have hpv : p ∉ av cs := m.dj p List.mem_cons_self
  refine ⟨by rw [List.length_append, List.length_append, m.len]; rfl, ?_, fun i c x h1 h2 => ?_, fun b hb => m.bt b (List.mem_cons_of_mem _ hb), fun b hb z => ?_⟩
  · rw [av_app, av_one]
    refine List.nodup_append.mpr ⟨m.nd, by simp [CA.all], fun a ha b hb e => ?_⟩
    subst e
    rcases List.mem_cons.mp hb with z | z
    · rw [z] at ha; exact hpv ha
    · cases z
  · by_cases hi : i < cs.length
    · rw [List.getElem?_append_left hi] at h1
      rw [List.getElem?_append_left (by rw [← m.len]; exact hi)] at h2
      exact (m.at_ i c x h1 h2).keep (keep_sub sub) fun _ _ _ h => h
    · have l1 := (List.getElem?_eq_some_iff.mp h1).1
      rw [List.length_append] at l1
      have ei : i = cs.length := by simp at l1; omega
      subst ei
      rw [List.getElem?_append_right (Nat.le_refl _), Nat.sub_self] at h1
      rw [m.len, List.getElem?_append_right (Nat.le_refl _), Nat.sub_self] at h2
      cases h1; cases h2
      exact .c (hc.keep (keep_sub sub) fun _ h => h)
  · rw [av_app, List.mem_append, av_one] at z
    rcases z with z | z
    · exact m.dj b (List.mem_cons_of_mem _ hb) z
    · rcases List.mem_cons.mp z with z | z
      · rw [z] at hb; exact hp hb
      · cases z
theorem Step.adopt {p : Addr} (e : Ext cs [] H0 H) (h : H0 p = none) (hn : n0 ≤ cs.length) : Step n0 cs (cs ++ [⟨p, []⟩]) H0 H := by
  refine ⟨e, fun i c h => ⟨c, ?_, rfl, fun p hp => hp⟩, fun i hi => List.getElem?_append_left (by omega), fun a ha => ?_⟩
  · rw [List.getElem?_append_left (List.getElem?_eq_some_iff.mp h).1]; exact h
  · rw [av_app, List.mem_append, av_one] at ha
    refine ha.imp id fun z => ?_
    rcases List.mem_cons.mp z with z | z
    · rw [z]; exact h
    · cases z
end
section
variable {g : Glo} {X : Cx} {Wx : WX} {cl : Nat → List W → Mem → Rs W} {n0 k : Nat} {pos p p2 apos cpos : Pos} {a b c : E} {x y z : Expr} {cs : List CA} {B : List Addr} {i : Nat} {nm : PySem.Str}
theorem er_cell {H H1 : Hp} {M1 : Mem} {env : Env} {σ : L2.St} {q : Addr} (st : Step n0 cs (cs ++ [⟨q, []⟩]) H H1) (he : ER g cs H (NV cs B) env σ) (hl : cs.length = M1.length) : ER g (cs ++ [⟨q, []⟩]) H1 (NV (cs ++ [⟨q, []⟩]) B) (env.set i (some (.c M1.length))) (σ.set i (some (.ref q))) :=
  (st.er he).set (.c (ca := ⟨q, []⟩) (by rw [← hl, List.getElem?_append_right (Nat.le_refl _), Nat.sub_self]; rfl))
theorem js_setC (G : Gd g k X) (st : Stor X i nm) (hl : notLc x = true) (ja : JE g X Wx cl a x) : JS g X Wx cl n0 (.setC i a) (.Assign [.Name nm p] x pos) := fun env M σ H cs B D hn he m post => by
  refine SemS.of (ps_set G.nd st.ix st.loc pe_sem (swaps_no hl) st.fn) ?_
  simp only [evS] at post
  refine ja env M σ H cs B [] _ (.inl rfl) he m ?_
  cases hr : evE cl a env M with
  | no => rw [hr] at post; exact post
  | ex c f M' => rw [hr] at post; exact fun dd H' e m z => post cs dd σ H' (.of e) (he.keep e.keep) m z
  | ok w M' =>
    rw [hr] at post
    intro v H1 e1 m1 r1
    simp only [onR] at post
    cases r1 with
    | n hp hav hv mr rl =>
      rename_i q vs xs
      have hB : q ∉ B := fun z => by
        obtain ⟨us, hu⟩ := m.bt q z
        rw [hp] at hu; cases hu
      have st2 : Step n0 cs (cs ++ [⟨q, []⟩]) H H1 := .adopt e1 hp hn
      exact post _ _ H1 st2 (er_cell st2 he m1.len) (mr.adopt hB (.lst hv rl))
    | v => exact post.elim
    | c => exact post.elim
    | f => exact post.elim
theorem js_setK (G : Gd g k X) (st : Stor X i nm) : JS g X Wx cl n0 (.setK i) (.Assign [.Name nm p] (.Dict [] [] p2) pos) := fun env M σ H cs B D hn he m post => by
  refine SemS.of (ps_set G.nd st.ix st.loc pe_dnewK (swaps_no rfl) st.fn) fun q hq => ?_
  simp only [evS] at post
  have hk : ∀ a o, H a = some o → upd H q (.dK []) a = some o := fun a o h => by rw [upd_ne (ne_of_none h hq)]; exact h
  have fr : ∀ a ∈ (CA.mk q []).all, H a = none := fun a ha => by
    rcases List.mem_cons.mp ha with e | e
    · rw [e]; exact hq
    · cases e
  have st2 : Step n0 cs (cs ++ [⟨q, []⟩]) H (upd H q (.dK [])) := Step.push hk fr hn
  exact post _ _ _ st2 (er_cell st2 he m.len) (m.push hk (by simp [CA.all]) fr (.c (.dK (kvs := []) (.inl upd_same) rfl List.nodup_nil .nil)))
theorem js_setT (G : Gd g k X) (st : Stor X i nm) : JS g X Wx cl n0 (.setT i) (.Assign [.Name nm p] (.Dict [] [] p2) pos) := fun env M σ H cs B D hn he m post => by
  refine SemS.of (ps_set G.nd st.ix st.loc pe_dnewT (swaps_no rfl) st.fn) fun q hq => ?_
  simp only [evS] at post
  have hk : ∀ a o, H a = some o → upd H q (.dT []) a = some o := fun a o h => by rw [upd_ne (ne_of_none h hq)]; exact h
  have fr : ∀ a ∈ (CA.mk q []).all, H a = none := fun a ha => by
    rcases List.mem_cons.mp ha with e | e
    · rw [e]; exact hq
    · cases e
  have st2 : Step n0 cs (cs ++ [⟨q, []⟩]) H (upd H q (.dT [])) := Step.push hk fr hn
  exact post _ _ _ st2 (er_cell st2 he m.len) (m.push hk (by simp [CA.all]) fr (.c (.dT (kvs := []) (.inl upd_same) rfl List.nodup_nil .nil)))
end
end Bf

set_option Elab.async false
set_option linter.all false
set_option maxHeartbeats 1000000
set_option maxRecDepth 10000
/-! x = f(..) as a new cell, x = C(..), a, b = c, d. -/
namespace Bf
open PySem PySem.Spec PyProof.Rows L2
section
variable {g : Glo} {X : Cx} {Wx : WX} {cl : Nat → List W → Mem → Rs W} {n0 k : Nat} {pos p p2 apos cpos : Pos} {a b c : E} {x y z : Expr} {es : Es} {xs : List Expr} {cs : List CA} {B : List Addr} {i j f np : Nat} {nm fn : PySem.Str} {fa : Addr} {fd : FuncData} {ps : List PySem.Str} {tg : Tg}
theorem js_setCall (G : Gd g k X) (st : Stor X i nm) (tk : Takes X Wx) (F : FF g X k cl f fa false np fd ps) (hg : Gl X fn) (hm : X.mg fn = some (.ref fa)) (hk : PySem.W.keepIn X.K (.ref fa) = true) (hd : (fn == ("__debug__" : PySem.Str)) = false)
    (hs : (x :: xs).all notStar = true) (ja : JA g X Wx cl es (x :: xs)) : JS g X Wx cl n0 (.setCall i f es) (.Assign [.Name nm p] (.Call (.Name fn p2) (x :: xs) [] cpos) pos) := fun env M σ H cs B D hn he m post => by
  rw [List.all_cons, Bool.and_eq_true] at hs
  refine SemS.of (ps_set G.nd st.ix st.loc (pe_callS F.ok G.room hg hm hk F.b (fun σ => passAt tk σ) pa_sem hd (star_cons hs.1) (noStars hs.2)) (swaps_no rfl) st.fn) ?_
  simp only [evS] at post
  refine ja env M σ H cs B [] _ (.inl rfl) he m ?_
  cases hr : evEs cl es env M with
  | no => rw [hr] at post; exact post
  | ex c f M' => rw [hr] at post; exact fun dd H' e m z => post cs dd σ H' (.of e) (he.keep e.keep) m z
  | ok ws M1 =>
    rw [hr] at post
    intro vs H1 e1 m1 r1
    have post := PostS.later m1 (.of e1) post
    simp only [Rs.bind] at post
    have he1 := he.keep e1.keep
    show spF g false np (cl f) vs H1 _ (WE Wx σ)
    refine ⟨F.len' r1 fun z => by rw [z] at post; exact post, cs, B, M1, ws, m1, r1, ?_⟩
    cases hr2 : cl f ws M1 with
    | no => rw [hr2] at post; exact post
    | ex c f M' =>
      rw [hr2] at post
      intro cs' dd H' s hl m' rs
      obtain rfl := same_of_step s hl
      exact post _ dd σ H' (.of s.ext) (he1.keep s.ext.keep) m' rs
    | ok w M' =>
      rw [hr2] at post
      intro cs' v H' s hl m' rs
      obtain rfl := same_of_step s hl
      simp only [onR] at post
      cases rs with
      | n hp hav hv mr rl =>
        rename_i q us ys
        have hB : q ∉ B := fun z => by
          obtain ⟨us, hu⟩ := m1.bt q z
          rw [hp] at hu; cases hu
        have st2 : Step n0 cs' (cs' ++ [⟨q, []⟩]) H1 H' := .adopt s.ext hp hn
        exact post _ _ H' st2 (er_cell st2 he1 m'.len) (mr.adopt hB (.lst hv rl))
      | v => exact post.elim
      | c => exact post.elim
      | f => exact post.elim
theorem js_setMk (G : Gd g (k + 1) X) (st : Stor X i nm) (tk : Takes X Wx) (F : FF g X k cl f fa true np fd ps) {cc : Nat} (hc : g.has cc = true) (Mm : Mk X.K (g.cA cc) fa) (hg : Gl X fn) (hm : X.mg fn = some (.ref (g.cA cc))) (hd : (fn == ("__debug__" : PySem.Str)) = false)
    (hs : (x :: xs).all notStar = true) (ja : JA g X Wx cl es (x :: xs)) : JS g X Wx cl n0 (.setMk i cc f es) (.Assign [.Name nm p] (.Call (.Name fn p2) (x :: xs) [] cpos) pos) := fun env M σ H cs B D hn he m post => by
  rw [List.all_cons, Bool.and_eq_true] at hs
  refine SemS.of (ps_set G.nd st.ix st.loc (pe_makeS Mm F.ok G.room hg hm F.b (fun σ => passAt tk σ) pa_sem hd (star_cons hs.1) (noStars hs.2)) (swaps_no rfl) st.fn) ?_
  simp only [evS] at post
  refine (ja env M σ H cs B [] _ (.inl rfl) he m (onR_post (rel := relA g cs B) he post)).mono fun vs H1 ⟨ws, M1, e1, m1, r1, p1⟩ y dx hy hdx hne => ?_
  have he1 := he.keep e1.keep
  obtain ⟨m2, st0⟩ := made_start m1 hc hy hdx hne
  have st1 := st0 cs.length (Nat.le_refl _)
  have stn := st0 n0 hn
  have r2 : RSs g (cs ++ [⟨y, []⟩]) B (upd (upd H1 dx (.own y)) y (.ins (g.cA cc) dx [])) (.c M1.length :: ws) (.ref y :: vs) :=
    .cons (.c (ca := ⟨y, []⟩) (by rw [← m1.len, List.getElem?_append_right (Nat.le_refl _), Nat.sub_self]; rfl)) (st1.rs r1)
  refine ⟨F.len' r2 fun z => by rw [z] at p1; exact p1, _, B, _, _, m2, r2, ?_⟩
  have en : (if true = true then (cs ++ [CA.mk y []]).length - 1 else (cs ++ [CA.mk y []]).length) = cs.length := by simp
  rw [en]
  have toN : ∀ {cs' : List CA} {H' : Hp}, Step cs.length (cs ++ [⟨y, []⟩]) cs' (upd (upd H1 dx (.own y)) y (.ins (g.cA cc) dx [])) H' → Step n0 cs cs' H1 H' := fun s =>
    stn.trans ⟨s.ext, s.gro, fun i hi => s.fix i (by omega), s.new⟩
  cases hr : cl f (.c M1.length :: ws) (M1 ++ [.ins cc [] []]) with
  | no => rw [hr] at p1; exact p1
  | ok w M' =>
    rw [hr] at p1
    intro cs' v H' s hl m' rs
    simp only [onR] at p1
    cases rs with
    | v rv =>
      rename_i d
      cases d with
      | non =>
        cases rv
        refine ⟨rfl, p1 cs' _ H' (toN s) ?_ m'⟩
        obtain ⟨ca, h1, h2, _⟩ := s.gro cs.length ⟨y, []⟩ (by rw [List.getElem?_append_right (Nat.le_refl _), Nat.sub_self]; rfl)
        have z := ((toN s).er he1).set (i := i) (RW.c (g := g) (H := H') (N := NV cs' B) h1)
        rw [h2, m1.len] at z
        exact z
      | _ => exact p1.elim
    | n => exact p1.elim
    | c => exact p1.elim
    | f => exact p1.elim
  | ex c' fl M' =>
    rw [hr] at p1
    intro cs' dd H' s hl m' rs
    exact p1 cs' dd σ H' (toN s) ((toN s).er he1) m' rs
/-- a, b = c, d: two local names -/
theorem js_par (G : Gd g k X) (sti : X.N[i]? = some nm) (stj : X.N[j]? = some fn) (hij : i ≠ j) (hx : X.env.scope.names.lookup nm = some .local) (hy : X.env.scope.names.lookup fn = some .local) (h1 : notStar x = true) (h2 : notStar y = true) {kt k2 : Nat} {pt pt2 : Pos}
    (hw : swappedStores [.Tuple [.Name nm p, .Name fn p2] kt pt] (.Tuple [x, y] k2 pt2) X.env = pure (some [nm, fn])) (ja : JE g X Wx cl a x) (jb : JE g X Wx cl b y) :
    JS g X Wx cl n0 (.par i j a b) (.Assign [.Tuple [.Name nm p, .Name fn p2] kt pt] (.Tuple [x, y] k2 pt2) pos) := fun env M σ H cs B D hn he m post => by
  refine SemS.of (ps_par G.calm G.nd sti stj hij hx hy (pa_cons pe_sem (pa_cons pe_sem pa_nil (star_cons h2)) (star_cons h1)) hw rfl) ?_
  simp only [evS] at post
  refine (ja env M σ H cs B [] _ (.inl rfl) he m (toV_postS he m post)).mono fun u H1 ⟨wa, M1, e1, m1, r1, p1⟩ => ?_
  have he1 := he.keep e1.keep
  refine (jb env M1 σ H1 cs B [] _ (.inl rfl) he1 m1 (toV_postS he1 m1 p1)).mono fun v H2 ⟨wb, M2, e2, m2, r2, p2⟩ => ?_
  cases ha : asD wa with
  | none => simp only [ha] at p2; exact p2.elim
  | some xd =>
    cases hb : asD wb with
    | none => simp only [ha, hb] at p2; exact p2.elim
    | some yd =>
      simp only [ha, hb] at p2
      have ra := (asD_rv (r1.rw m) ha).keep e2.keep
      have rb := asD_rv (r2.rw m1) hb
      exact ⟨u, v, rfl, p2 cs _ H2 .refl (((he1.keep e2.keep).set (.v ra)).set (.v rb)) m2⟩
def notTup : Expr → Bool
  | .Tuple .. => false
  | _ => true
theorem js_unp (hl : notLc x = true) (hsw : ∀ l, swapsWithSole [z] x l X.env = pure false) (hw : swappedStores [z] x X.env = pure none) (h1 : (assignEach [z] X.env).map (·.2) = [assign z X.env]) (ja : JE g X Wx cl a x) (jg : JG g X tg z) : JS g X Wx cl n0 (.unp tg a) (.Assign [z] x pos) := fun env M σ H cs B D hn he m post => by
  refine SemS.of (ps_asg pe_sem pg_sem (hsw _) hw h1) ?_
  simp only [evS] at post
  refine (ja env M σ H cs B [] _ (.inl rfl) he m (onR_post (rel := RS g cs B []) he post)).mono fun v H1 ⟨w, M1, e1, m1, r1, p1⟩ => ?_
  cases w with
  | v d =>
    simp only at p1
    cases hb : bindT tg d env with
    | none => rw [hb] at p1; exact p1.elim
    | some e2 =>
      rw [hb] at p1
      cases r1 with
      | v r => exact jg d v env e2 σ H1 cs (NV cs B) _ r (he.keep e1.keep) hb fun σ' er _ => p1 cs σ' H1 .refl er m1
  | _ => exact p1.elim
end
end Bf

set_option Elab.async false
set_option linter.all false
set_option maxHeartbeats 1000000
set_option maxRecDepth 10000
/-! Stores into containers. -/
namespace Bf
open PySem PySem.Spec PyProof.Rows L2
/-! ### setdefault at tuples -/
section
variable {X : Cx} {pins : List (Addr × Obj)} {σ : L2.St} {H : Hp} {s : Shared} {a b : Addr} {kvs : List (List Key × V)} {k : List Key} {d : V} {r : Value} {A : Around} {E : Value → Shared → Prop}
theorem d_setdT {Q : Value → Shared → Prop} (hu : A.units + 1 < cLine) (I : Inv X pins σ H s) (e : H a = some (.dT kvs)) (eb : H b = some (.tup (k.map kV))) (rd : RelV d r) (hl : kvs.length < sizeLine)
    (h1 : ∀ v, valV kvs k = some v → ∀ w' s', Inv X pins σ H s' → RelV v w' → Q w' s') (h2 : valV kvs k = none → ∀ w' s', Inv X pins σ (upd H a (.dT (putK kvs k d))) s' → RelV d w' → Q w' s') :
    wpAny (model X.prog X.w) A (call (.builtin "dict.setdefault") [.ref a, .ref b, r]) Q E s := by
  obtain ⟨z, hd, xs, rel, dd⟩ := dt_of I.hok e
  have hz : xs.length ≤ sizeLine := by rw [← Paired.length rel]; exact z
  have hl2 : (putK kvs k d).length ≤ sizeLine := by have := length_putK kvs k d; omega
  have rv := rel.val k
  refine call_setdefault_heap (hsz := hz) (tupleKind_room_in1 hu) (key_of I.hok eb) hd dd (fun p hp => ?_) fun hn h' dd' hs => ?_
  · rw [hp] at rv
    cases q0 : valV kvs k with
    | none => rw [q0] at rv; exact (show False from rv).elim
    | some v0 => rw [q0] at rv; exact h1 v0 q0 _ _ (I.tok _) rv
  · rw [hn] at rv
    cases q0 : valV kvs k with
    | some v0 => rw [q0] at rv; exact (show False from rv).elim
    | none =>
      obtain ⟨q, es, ep, hq, g2, g3, g4, _, g5⟩ := dd'
      refine h2 q0 _ _ (d_write I (by rw [e]; exact True.intro) hs ⟨q, hq⟩ ⟨hl2, hd, _, (rel.put k eb rd).keeps fun c ys ec => ?_, q, es, ep, hq, g2, g3, g4, g5⟩) rd
      rw [upd_ne (ne_of ec e (fun z => nomatch z))]
      exact ec
end
def rSetdA (H : Hp) (a : Addr) (y z : V) (Q : VK) : Prop :=
  (∃ (kvs : List (Key × V)) (k : Key), H a = some (.dK kvs) ∧ y = kV k ∧ kvs.length < sizeLine ∧ (∀ v, valV kvs k = some v → Q v H) ∧ (valV kvs k = none → Q z (upd H a (.dK (putK kvs k z))))) ∨
  ∃ (kvs : List (List Key × V)) (k : List Key) (b : Addr), H a = some (.dT kvs) ∧ y = .ref b ∧ H b = some (.tup (k.map kV)) ∧ kvs.length < sizeLine ∧ (∀ v, valV kvs k = some v → Q v H) ∧ (valV kvs k = none → Q z (upd H a (.dT (putK kvs k z))))
def tSetdA (td ty tx : TE) : TE := fun σ H Q => td σ H fun x H1 => ∃ a, x = .ref a ∧ IsD H1 a ∧ ty σ H1 fun y H2 => tx σ H2 fun z H3 => rSetdA H3 a y z Q
theorem pe_setdA {X : Cx} {o e f : Expr} {td ty tx : TE} {apos cpos : Pos} (hu : X.A.units + 1 < cLine) (ho : PE X o td) (he : PE X e ty) (hf : PE X f tx) (m : M2 X o "setdefault" apos e f cpos) : PE X (.Call (.Attribute o "setdefault" apos) [e, f] [] cpos) (tSetdA td ty tx) := by
  refine ⟨fun pins s σ H Q I h => ?_⟩
  refine wpAny_Call_method m.base m.few m.line PySem.F.plainAttrs_dict PySem.F.slot_dict_setdefault PySem.F.type_dict_setdefault (thn (ho.run pins s σ H _ I h) fun u s1 ⟨x, H1, I1, rx, a, ex, d, q1⟩ => ?_)
  subst ex
  obtain rfl : u = Value.ref a := rx
  obtain ⟨t1, t2, _⟩ := isD_at I1 d
  refine ⟨t1, t2, ?_⟩
  rw [m.trees]
  refine Calls.callWith_builtin rfl (Calls.evalArgs_plain (Calls.spliced_cons (thn (he.run pins s1 σ H1 _ I1 q1) fun iv s2 ⟨y, H2, I2, ry, q2⟩ =>
    Calls.spliced_cons (thn (hf.run pins s2 σ H2 _ I2 q2) fun fv s3 ⟨z, H3, I3, rz, q⟩ => Calls.spliced_nil ?_))))
  rcases q with ⟨kvs, k, ea, ey, hl, q3, q4⟩ | ⟨kvs, k, b, ea, ey, eb, hl, q3, q4⟩
  · subst ey
    exact d_setd I3 ea ry rz hl (fun v hv w' s4 I4 rw' => ⟨v, _, I4, rw', q3 v hv⟩) fun hn w' s4 I4 rw' => ⟨z, _, I4, rw', q4 hn⟩
  · subst ey
    cases (show iv = Value.ref b from ry)
    exact d_setdT hu I3 ea eb rz hl (fun v hv w' s4 I4 rw' => ⟨v, _, I4, rw', q3 v hv⟩) fun hn w' s4 I4 rw' => ⟨z, _, I4, rw', q4 hn⟩
/-! ### o[i] = v -/
def SemSet (X : Cx) : TSet := fun o i v H Q => ∀ (pins : List (Addr × Obj)) (s : Shared) (σ : L2.St) (ov iv u : Value), Inv X pins σ H s → RelV o ov → RelV i iv → RelV v u → wpAny (model X.prog X.w) X.A (setItem ov iv u) (fun _ s' => ∃ H', Inv X pins σ H' s' ∧ Q H') X.xe s
theorem pset_sem {X : Cx} : PSet X (SemSet X) := fun pins s σ H o i v ov iv u Q I ro ri rv h => h pins s σ ov iv u I ro ri rv
theorem SemSet.of {X : Cx} {t : TSet} {o i v : V} {H : Hp} {Q : Hp → Prop} (h : PSet X t) (q : t o i v H Q) : SemSet X o i v H Q := fun pins s σ ov iv u I ro ri rv => h pins s σ H o i v ov iv u Q I ro ri rv q
section
variable {g : Glo} {X : Cx} {Wx : WX} {cl : Nat → List W → Mem → Rs W} {n0 k : Nat} {pos p p2 apos cpos : Pos} {a b c : E} {x y z : Expr} {es : Es} {xs : List Expr} {cs : List CA} {B : List Addr} {i j f np : Nat} {nm fn : PySem.Str}
theorem put_plain {κ : Type} [DecidableEq κ] : ∀ {ks : List κ} {xs : List D} {q : κ} {y : D}, ks.Nodup → (put ks xs q y).1.Nodup := by
  intro ks
  induction ks with
  | nil => intro xs q y _; cases xs <;> simp [put]
  | cons k ks ih =>
    intro xs q y nd
    cases xs with
    | nil => simp [put]
    | cons x xs =>
      by_cases h : k = q
      · simp only [put, if_pos h]; exact nd
      · simp only [put, if_neg h]
        have nd' := List.nodup_cons.mp nd
        refine List.nodup_cons.mpr ⟨fun hm => ?_, ih nd'.2⟩
        have mem : ∀ {ks : List κ} {xs : List D}, k ∈ (put ks xs q y).1 → k ∈ ks := by
          intro ks
          induction ks with
          | nil => intro xs hm; cases xs <;> (simp [put] at hm; exact absurd hm h)
          | cons k' ks ih2 =>
            intro xs hm
            cases xs with
            | nil => simp [put] at hm; exact absurd hm h
            | cons x xs =>
              by_cases h' : k' = q
              · simp only [put, if_pos h'] at hm; exact hm
              · simp only [put, if_neg h'] at hm
                rcases List.mem_cons.mp hm with e | e
                · exact List.mem_cons.mpr (.inl e)
                · exact List.mem_cons_of_mem _ (ih2 e)
        exact nd'.1 (mem hm)
/-- one store, by data -/
theorem put_ok (hu : X.A.units + 1 < cLine) {H : Hp} {M M' : Mem} {w : W} {v u t : V} {q y : D} {Q : Hp → Prop} (m : MR g cs B [] H M) (r : RW g cs H (NV cs B) w v) (rq : Rv g H (NV cs B) q u) (ry : Rv g H (NV cs B) y t) (h : chg w (fun x => putD x q y) M = some M')
    (fin : ∀ H', Ext cs [] H H' → MR g cs B [] H' M' → Q H') : SemSet X v u t H Q := by
  obtain ⟨d, d', ad, hw, hf, ev, hav, hc, wr⟩ := chg_ok m r h putD_plain
  subst ev
  have hk : ∀ {o : HO}, Keep H (NV cs B) (upd H ad o) (NV cs B) := fun {o} => keepW (List.mem_append_left _ hav)
  cases hc with
  | lst hq rl =>
    rename_i us ds
    cases q with
    | int ii =>
      simp only [putD, Option.map_eq_some_iff] at hf
      obtain ⟨jj, hj, rfl⟩ := hf
      cases rq
      obtain ⟨m3, e3⟩ := wr (.lst (us.set jj t)) (.lst upd_same (Rl.set (ry.keep hk) jj (rl.keep hk)))
      exact SemSet.of set_list ⟨ad, us, ii, jj, rfl, rfl, hq, by rw [rl.length]; exact hj, fin _ e3 m3⟩
    | _ => cases hf
  | dK hq ek nd rl =>
    rename_i kvs ks ds
    subst ek
    have hf : (keyD q).bind (fun k => if (kvs.map (·.1)).length < LIM then some (D.dK (put (kvs.map (·.1)) ds k y).1 (put (kvs.map (·.1)) ds k y).2) else none) = some d' := by
      cases q <;> first | exact hf | rfl | cases hf
    obtain ⟨kk, ekk, hf⟩ := Option.bind_eq_some_iff.mp hf
    split at hf
    · rename_i hz
      cases hf
      obtain rfl := keyV rq ekk
      obtain ⟨l1, l2⟩ := look_put nd (rl.keep hk) (ry.keep hk) (q := kk)
      obtain ⟨m3, e3⟩ := wr (.dK (putK kvs kk t)) (.dK (.inl upd_same) l1 (put_plain nd) l2)
      refine SemSet.of (set_dict hu) ⟨ad, _, rfl, DPut.k hq.exact ?_, fin _ e3 m3⟩
      rw [List.length_map] at hz
      have := sz_lim (n := kvs.length + 1) (by omega)
      omega
    · cases hf
  | dT hq ek nd rl =>
    rename_i kvs ks ds
    subst ek
    cases q with
    | tup ts =>
      simp only [putD] at hf
      obtain ⟨kk, ekk, hf⟩ := Option.bind_eq_some_iff.mp hf
      split at hf
      · rename_i hz
        cases hf
        cases rq with
        | tup hb nb rb =>
          have ev := keysV rb ekk
          subst ev
          obtain ⟨l1, l2⟩ := look_put nd (rl.keep hk) (ry.keep hk) (q := kk)
          obtain ⟨m3, e3⟩ := wr (.dT (putK kvs kk t)) (.dT (.inl upd_same) l1 (put_plain nd) l2)
          refine SemSet.of (set_dict hu) ⟨ad, _, rfl, DPut.t hq.exact hb ?_, fin _ e3 m3⟩
          rw [List.length_map] at hz
          have := sz_lim (n := kvs.length + 1) (by omega)
          omega
      · cases hf
    | _ => cases hf
theorem asg_sub {X : Cx} {p : Pos} (h : plainIxB y = true) : ∀ v, assign (.Subscript x y p) X.env v = (do
      let ov ← holding [v] (eval x X.env)
      let iv ← holding [v, ov] (eval y X.env)
      standAt p
      holding [v, ov, iv] (setItem ov iv v)
      release [v, ov, iv] []) := fun v => by
  cases y <;> first | rfl | cases h
theorem js_put (G : Gd g k X) (hix : plainIxB y = true) (ja : JE g X Wx cl a x) (jb : JE g X Wx cl b y) (jc : JE g X Wx cl c z) (hsw : ∀ l, swapsWithSole [.Subscript x y p] z l X.env = pure false) (hw : swappedStores [.Subscript x y p] z X.env = pure none) :
    JS g X Wx cl n0 (.put a b c) (.Assign [.Subscript x y p] z pos) := fun env M σ H cs B D hn he m post => by
  refine SemS.of (ps_asg pe_sem (pg_sub pe_sem pe_sem pset_sem (asg_sub hix)) (hsw _) hw) ?_
  simp only [evS] at post
  refine (jc env M σ H cs B [] _ (.inl rfl) he m (onR_post (rel := RS g cs B []) he post)).mono fun v H1 ⟨wy, M1, e1, m1, r1, p1⟩ => ?_
  have he1 := he.keep e1.keep
  refine (ja env M1 σ H1 cs B [] _ (.inl rfl) he1 m1 (onR_post (rel := RS g cs B []) he1 p1)).mono fun u H2 ⟨w, M2, e2, m2, r2, p2⟩ => ?_
  have he2 := he1.keep e2.keep
  refine (jb env M2 σ H2 cs B [] _ (.inl rfl) he2 m2 (onR_post (rel := RS g cs B []) he2 p2)).mono fun t H3 ⟨wq, M3, e3, m3, r3, p3⟩ => ?_
  cases hy : asD wy with
  | none => simp only [hy] at p3; exact p3.elim
  | some yd =>
    cases wq with
    | v q =>
      simp only [hy] at p3
      obtain ⟨M4, h4, p4⟩ := nxO_post p3
      cases r3 with
      | v rq =>
        refine put_ok (Nat.lt_of_le_of_lt (by omega) G.hu) m3 ((r2.rw m1).keep e3.keep) rq (((asD_rv (r1.rw m) hy).keep e2.keep).keep e3.keep) h4 fun H4 e4 m4 => ?_
        exact p4 cs σ H4 (.of e4) ((he2.keep e3.keep).keep e4.keep) m4
    | _ => simp only [hy] at p3; exact p3.elim
/-! ### d.setdefault(k, v) as a statement -/
theorem setd_plain {k y : D} : ∀ d d', setdD d k y = some d' → plainC d = true := fun d d' h => by
  cases d with
  | dK => rfl
  | dT => rfl
  | _ => cases h
theorem setd_ok {H : Hp} {M M' : Mem} {w : W} {v u t : V} {q y : D} {Q : VK} (m : MR g cs B [] H M) (r : RW g cs H (NV cs B) w v) (rq : Rv g H (NV cs B) q u) (ry : Rv g H (NV cs B) y t) (h : chg w (fun x => setdD x q y) M = some M')
    (fin : ∀ z H', Ext cs [] H H' → MR g cs B [] H' M' → Q z H') : ∃ ad, v = .ref ad ∧ rSetdA H ad u t Q := by
  obtain ⟨d, d', ad, hw, hf, ev, hav, hc, wr⟩ := chg_ok m r h setd_plain
  subst ev
  refine ⟨ad, rfl, ?_⟩
  have hk : ∀ {o : HO}, Keep H (NV cs B) (upd H ad o) (NV cs B) := fun {o} => keepW (List.mem_append_left _ hav)
  have same : ∀ {o : HO}, H ad = some o → upd H ad o = H := fun {o} ho => by
    funext z
    by_cases e : z = ad
    · rw [e, upd_same, ho]
    · rw [upd_ne e]
  cases hc with
  | lst hq rl => cases q <;> cases hf
  | dK hq ek nd rl =>
    rename_i kvs ks ds
    subst ek
    have hq := hq.exact
    have hf : (keyD q).bind (fun k => if (kvs.map (·.1)).length < LIM then some (match look (kvs.map (·.1)) ds k with
        | some _ => D.dK (kvs.map (·.1)) ds
        | none => .dK (put (kvs.map (·.1)) ds k y).1 (put (kvs.map (·.1)) ds k y).2) else none) = some d' := by
      cases q <;> first | exact hf | rfl | cases hf
    obtain ⟨kk, ekk, hf⟩ := Option.bind_eq_some_iff.mp hf
    obtain rfl := keyV rq ekk
    have lv := look_val (q := kk) rl
    split at hf
    · rename_i hz
      have hz : kvs.length < sizeLine := by
        rw [List.length_map] at hz
        have := sz_lim (n := kvs.length + 1) (by omega)
        omega
      cases hlk : look (kvs.map (·.1)) ds kk with
      | some x0 =>
        rw [hlk] at hf lv
        cases hf
        obtain ⟨v0, h0, r0⟩ := lv
        obtain ⟨m3, e3⟩ := wr (.dK kvs) (.dK (.inl upd_same) rfl nd (rl.keep hk))
        rw [same hq] at m3 e3
        exact .inl ⟨kvs, kk, hq, rfl, hz, fun v _ => fin v H e3 m3, fun z => by rw [h0] at z; cases z⟩
      | none =>
        rw [hlk] at hf lv
        cases hf
        obtain ⟨l1, l2⟩ := look_put nd (rl.keep hk) (ry.keep hk) (q := kk)
        obtain ⟨m3, e3⟩ := wr (.dK (putK kvs kk t)) (.dK (.inl upd_same) l1 (put_plain nd) l2)
        exact .inl ⟨kvs, kk, hq, rfl, hz, fun v z => (by rw [lv] at z; cases z), fun _ => fin _ _ e3 m3⟩
    · cases hf
  | dT hq ek nd rl =>
    rename_i kvs ks ds
    subst ek
    have hq := hq.exact
    cases q with
    | tup ts =>
      simp only [setdD] at hf
      obtain ⟨kk, ekk, hf⟩ := Option.bind_eq_some_iff.mp hf
      cases rq with
      | tup hb nb rb =>
        have ev := keysV rb ekk
        subst ev
        have lv := look_val (q := kk) rl
        split at hf
        · rename_i hz
          have hz : kvs.length < sizeLine := by
            rw [List.length_map] at hz
            have := sz_lim (n := kvs.length + 1) (by omega)
            omega
          cases hlk : look (kvs.map (·.1)) ds kk with
          | some x0 =>
            rw [hlk] at hf lv
            cases hf
            obtain ⟨v0, h0, r0⟩ := lv
            obtain ⟨m3, e3⟩ := wr (.dT kvs) (.dT (.inl upd_same) rfl nd (rl.keep hk))
            rw [same hq] at m3 e3
            exact .inr ⟨kvs, kk, _, hq, rfl, hb, hz, fun v _ => fin v H e3 m3, fun z => by rw [h0] at z; cases z⟩
          | none =>
            rw [hlk] at hf lv
            cases hf
            obtain ⟨l1, l2⟩ := look_put nd (rl.keep hk) (ry.keep hk) (q := kk)
            obtain ⟨m3, e3⟩ := wr (.dT (putK kvs kk t)) (.dT (.inl upd_same) l1 (put_plain nd) l2)
            exact .inr ⟨kvs, kk, _, hq, rfl, hb, hz, fun v z => (by rw [lv] at z; cases z), fun _ => fin _ _ e3 m3⟩
        · cases hf
    | _ => cases hf
theorem js_setd (G : Gd g k X) (h1 : notSup x = true) (h2 : notStar y = true) (h3 : notStar z = true) (h4 : (apos.endLine == cpos.line) = true) (ja : JE g X Wx cl a x) (jb : JE g X Wx cl b y) (jc : JE g X Wx cl c z) :
    JS g X Wx cl n0 (.setd a b c) (.Expr (.Call (.Attribute x "setdefault" apos) [y, z] [] cpos) pos) := fun env M σ H cs B D hn he m post => by
  have hu : X.A.units + 1 < cLine := Nat.lt_of_le_of_lt (by omega) G.hu
  refine SemS.of (ps_expr (pe_setdA hu pe_sem pe_sem pe_sem (m2_of h1 h2 h3 h4)) (swaps_no rfl)) ?_
  simp only [evS] at post
  refine (ja env M σ H cs B [] _ (.inl rfl) he m (onR_post (rel := RS g cs B []) he post)).mono fun v H1 ⟨w, M1, e1, m1, r1, p1⟩ => ?_
  have he1 := he.keep e1.keep
  have hd : ∃ q, v = .ref q ∧ IsD H1 q := by
    cases hw : w.get M1 with
    | none => rw [hw] at p1; exact p1.elim
    | some d0 =>
      rw [hw] at p1
      have tp := (r1.rw m).top m1 hw
      cases d0 with
      | dK => obtain ⟨q, kvs, rfl, h, _⟩ := tp.dKE; exact ⟨q, rfl, .inl ⟨_, h⟩⟩
      | dT => obtain ⟨q, kvs, rfl, h, _⟩ := tp.dTE; exact ⟨q, rfl, .inr ⟨_, h⟩⟩
      | _ => exact p1.elim
  have hi : isDct (w.get M1) = true := by
    cases h : isDct (w.get M1) with
    | true => rfl
    | false => rw [h] at p1; exact p1.elim
  rw [hi] at p1
  simp only at p1
  obtain ⟨ad, rfl, hd⟩ := hd
  refine ⟨ad, rfl, hd, ?_⟩
  refine (jb env M1 σ H1 cs B [] _ (.inl rfl) he1 m1 (onR_post (rel := RS g cs B []) he1 p1)).mono fun u H2 ⟨wq, M2, e2, m2, r2, p2⟩ => ?_
  have he2 := he1.keep e2.keep
  refine (jc env M2 σ H2 cs B [] _ (.inl rfl) he2 m2 (onR_post (rel := RS g cs B []) he2 p2)).mono fun t H3 ⟨wy, M3, e3, m3, r3, p3⟩ => ?_
  cases wq with
  | v q =>
    cases wy with
    | v yd =>
      simp only at p3
      obtain ⟨M4, h4, p4⟩ := nxO_post p3
      cases r3 with
      | v ry =>
        obtain ⟨ad', e', q'⟩ := setd_ok (Q := fun _ H' => D.nx σ H') m3 (((r1.rw m).keep e2.keep).keep e3.keep) (match (r2.rw m1).keep e3.keep with | .v r => r) ry h4 fun z H4 e4 m4 => p4 cs σ H4 (.of e4) ((he2.keep e3.keep).keep e4.keep) m4
        cases e'
        exact q'
    | _ => exact p3.elim
  | _ => cases wy <;> exact p3.elim
end
end Bf

set_option Elab.async false
set_option linter.all false
set_option maxHeartbeats 1000000
set_option maxRecDepth 10000
/-! Stores into fields; a list returned by value; two clauses stored. -/
namespace Bf
open PySem PySem.Spec PyProof.Rows L2
section
variable {g : Glo} {n0 : Nat} {cs : List CA} {B L N : List Addr} {H H' H1 : Hp} {M : Mem}
theorem putF_nm {k : Fd} {v : V} {d : D} : ∀ {fvs : List (PySem.Str × V)} {ks : List Fd} {ds : List D}, ds.length = ks.length → fvs.map (·.1) = ks.map Fd.nm → (putF k.nm v fvs).map (·.1) = (put ks ds k d).1.map Fd.nm
  | [], [], ds, _, _ => by cases ds <;> rfl
  | (s, u) :: fvs, [], _, _, e => by simp at e
  | [], k' :: ks, _, _, e => by simp at e
  | (s, u) :: fvs, k' :: ks, [], h, _ => by simp at h
  | (s, u) :: fvs, k' :: ks, x :: ds, h, e => by
    simp only [List.map_cons, List.cons.injEq] at e
    obtain ⟨e1, e2⟩ := e
    by_cases hk : k' = k
    · have hs : s = k.nm := by rw [e1, hk]
      simp only [putF, put, if_pos hk, if_pos hs, List.map_cons, e2]
      rw [hs, hk]
    · have hs : ¬ s = k.nm := fun z => hk (Fd.inj (by rw [← e1, z]))
      simp only [putF, put, if_neg hk, if_neg hs, List.map_cons]
      rw [putF_nm (by simpa using h) e2, e1]
theorem Fl.len : ∀ {ks : List Fd} {ds : List D} {vs : List V} {ow : List (Fd × Addr)}, Fl g L H N ks ds vs ow → ds.length = ks.length
  | _, _, _, _, .nil => rfl
  | _, _, _, _, .val _ _ t => congrArg (· + 1) (Fl.len t)
  | _, _, _, _, .own _ _ t => congrArg (· + 1) (Fl.len t)
theorem Fl.putV {k : Fd} {v : V} {d : D} (ho : owned k = false) (r : Rv g H N d v) : ∀ {fvs : List (PySem.Str × V)} {ks : List Fd} {ds : List D} {vs : List V} {ow : List (Fd × Addr)}, fvs.map (·.1) = ks.map Fd.nm → fvs.map (·.2) = vs → Fl g L H N ks ds vs ow →
    Fl g L H N (put ks ds k d).1 (put ks ds k d).2 ((putF k.nm v fvs).map (·.2)) ow
  | [], [], _, _, _, _, e2, .nil => .val ho r .nil
  | (s, u) :: fvs, [], _, _, _, e, _, _ => by simp at e
  | [], k' :: ks, _, _, _, e, _, _ => by simp at e
  | (s, u) :: fvs, k' :: ks, _, _, _, e, e2, fl => by
    simp only [List.map_cons, List.cons.injEq] at e
    obtain ⟨e1, e3⟩ := e
    have hd : ∀ {v' : V} {vs' : List V}, (u :: fvs.map (·.2)) = v' :: vs' → u = v' ∧ fvs.map (·.2) = vs' := fun z => by
      injection z with z1 z2; exact ⟨z1, z2⟩
    by_cases hk : k' = k
    · have hs : s = k.nm := by rw [e1, hk]
      cases fl with
      | val eo rr t =>
        obtain ⟨z1, z2⟩ := hd e2
        simp only [putF, put, if_pos hk, if_pos hs, List.map_cons]
        rw [z2]
        exact .val eo r t
      | own eo rr t => rw [hk, ho] at eo; cases eo
    · have hs : ¬ s = k.nm := fun z => hk (Fd.inj (by rw [← e1, z]))
      cases fl with
      | val eo rr t =>
        obtain ⟨z1, z2⟩ := hd e2
        simp only [putF, put, if_neg hk, if_neg hs, List.map_cons]
        rw [z1]
        exact .val eo rr (Fl.putV ho r e3 z2 t)
      | own eo rr t =>
        obtain ⟨z1, z2⟩ := hd e2
        simp only [putF, put, if_neg hk, if_neg hs, List.map_cons]
        rw [z1]
        exact .own eo rr (Fl.putV ho r e3 z2 t)
theorem Fl.snoc {k : Fd} {q : Addr} {d : D} (ho : owned k = true) (c : Cont g L H N q d) : ∀ {ks : List Fd} {ds : List D} {vs : List V} {ow : List (Fd × Addr)}, Fl g L H N ks ds vs ow → Fl g L H N (ks ++ [k]) (ds ++ [d]) (vs ++ [.ref q]) (ow ++ [(k, q)])
  | _, _, _, _, .nil => .own ho c .nil
  | _, _, _, _, .val e r t => .val e r (Fl.snoc ho c t)
  | _, _, _, _, .own e r t => .own e r (Fl.snoc ho c t)
theorem putF_new {s : PySem.Str} {v : V} : ∀ {fvs : List (PySem.Str × V)}, s ∉ fvs.map (·.1) → putF s v fvs = fvs ++ [(s, v)]
  | [], _ => rfl
  | (t, u) :: fvs, h => by
    have h1 : ¬ t = s := fun z => h (by rw [z]; exact List.mem_cons_self)
    simp only [putF, if_neg h1]
    rw [putF_new fun z => h (List.mem_cons_of_mem _ z)]
    rfl
/-- the cell at i written as an object -/
theorem cell_ins {i c : Nat} {ca : CA} {ks : List Fd} {ds : List D} (m : MR g cs B [] H M) (h1 : cs[i]? = some ca) (h2 : M[i]? = some (.ins c ks ds)) : ∃ dx fvs, g.has c = true ∧ H ca.a = some (.ins (g.cA c) dx fvs) ∧ fvs.map (·.1) = ks.map Fd.nm ∧ Fl g [] H (NV cs B) ks ds (fvs.map (·.2)) ca.own ∧ ks.Nodup := by
  cases m.at_ i ca _ h1 h2 with
  | c h => cases h
  | ins hc h e e2 f nd => subst e2; exact ⟨_, _, hc, h, e, f, nd⟩
theorem av_setP {ca ca' : CA} {p : Addr} (hp : ca'.all.Perm (p :: ca.all)) : ∀ {cs : List CA} {i : Nat}, cs[i]? = some ca → (av (cs.set i ca')).Perm (p :: av cs)
  | [], i, h => by simp at h
  | q :: cs, 0, h => by
    have e : q = ca := by simpa using h
    subst e
    show (ca'.all ++ av cs).Perm (p :: (q.all ++ av cs))
    exact (hp.append_right (av cs))
  | q :: cs, i + 1, h => by
    have ih := av_setP hp (cs := cs) (i := i) (by simpa using h)
    show (q.all ++ av (cs.set i ca')).Perm (p :: (q.all ++ av cs))
    exact (ih.append_left q.all).trans List.perm_middle
end
section
variable {g : Glo} {X : Cx} {Wx : WX} {cl : Nat → List W → Mem → Rs W} {n0 k : Nat} {pos p p2 apos cpos : Pos} {a b c : E} {x y z : Expr} {es : Es} {xs : List Expr} {cs : List CA} {B : List Addr} {i j f np : Nat} {nm fn : PySem.Str}
theorem js_fput (F : GF g X) {fd : Fd} (hl : notLc z = true) (ja : JE g X Wx cl a x) (jb : JE g X Wx cl b z) : JS g X Wx cl n0 (.fput a fd b) (.Assign [.Attribute x fd.nm p] z pos) := fun env M σ H cs B D hn he m post => by
  refine SemS.of (ps_fld pe_sem pe_sem (swaps_no hl)) ?_
  simp only [evS] at post
  refine (jb env M σ H cs B [] _ (.inl rfl) he m (onR_post (rel := RS g cs B []) he post)).mono fun v H1 ⟨wy, M1, e1, m1, r1, p1⟩ => ?_
  have he1 := he.keep e1.keep
  refine (ja env M1 σ H1 cs B [] _ (.inl rfl) he1 m1 (onR_post (rel := RS g cs B []) he1 p1)).mono fun u H2 ⟨w, M2, e2, m2, r2, p2⟩ => ?_
  have he2 := he1.keep e2.keep
  cases hy : asD wy with
  | none => rw [hy] at p2; exact p2.elim
  | some yd =>
    rw [hy] at p2
    simp only at p2
    by_cases ho : owned fd = true
    · rw [if_pos ho] at p2; exact p2.elim
    · rw [if_neg ho] at p2
      have ho : owned fd = false := by cases h : owned fd <;> simp_all
      obtain ⟨M3, h3, p3⟩ := nxO_post p2
      cases w with
      | c i =>
        simp only [fputM] at h3
        cases hM : M2[i]? with
        | none => rw [hM] at h3; cases h3
        | some d =>
          rw [hM] at h3
          cases d with
          | ins cc ks ds =>
            simp only at h3
            split at h3
            · rename_i hok
              cases h3
              cases r2 with
              | @c _ ca hca =>
                obtain ⟨dx, fvs, hc, hH, ek, fl, nd⟩ := cell_ins m2 hca hM
                have ry := (asD_rv (r1.rw m) hy).keep e2.keep
                have hmem : ca.a ∈ ca.all := List.mem_cons_self
                have hav := mem_av hca hmem
                have nall := av_own m2.nd hca
                refine ⟨ca.a, g.cA cc, dx, fvs, rfl, hH, F.cls cc hc, F.na cc fd hc hok.1, ?_, ?_⟩
                · have : (fvs.map (·.1)).length = (ks.map Fd.nm).length := by rw [ek]
                  rw [List.length_map, List.length_map] at this
                  omega
                · have kp : ∀ {o : HO}, Keep H2 (NV cs B) (upd H2 ca.a o) (NV cs B) := fun {o} => keepW (List.mem_append_left _ hav)
                  have own_ne : ∀ q ∈ ca.own, ∀ o, H2 q.2 = some o → upd H2 ca.a (.ins (g.cA cc) dx (putF fd.nm v fvs)) q.2 = some o := fun q hq o h => by
                    rw [upd_ne]
                    · exact h
                    · intro z
                      exact (List.nodup_cons.mp nall).1 (by rw [← z]; exact List.mem_map.mpr ⟨q, hq, rfl⟩)
                  have fl2 := Fl.putV ho ry ek rfl fl
                  have cr : CellR g [] (upd H2 ca.a (.ins (g.cA cc) dx (putF fd.nm v fvs))) (NV cs B) ca (.ins cc (put ks ds fd yd).1 (put ks ds fd yd).2) := by
                    obtain ⟨ca_a, ca_own⟩ := ca
                    exact .ins hc upd_same (putF_nm fl.len ek) rfl (fl2.keep kp own_ne) (put_plain nd)
                  have m3 := m2.write hca hmem cr
                  have e3 : Ext cs [] H2 (upd H2 ca.a (.ins (g.cA cc) dx (putF fd.nm v fvs))) := ext_write hav
                  exact p3 cs σ _ (.of e3) (he2.keep e3.keep) m3
            · cases h3
          | _ => cases h3
      | _ => cases h3
/-- self.f = [] or {}: the new container p stands in a cell of its own for a moment -/
theorem fnew_core (F : GF g X) {fd : Fd} {H H1 : Hp} {M M' : Mem} {q : Addr} {d0 : D} {v : V} {env : Env} {σ : L2.St} {dd : Ends} (hd0 : d0 = .lst [] ∨ d0 = .dK [] []) (hq : H q = none) (e1 : Ext (cs ++ [⟨q, []⟩]) [] H1 H1) (m1 : MR g (cs ++ [⟨q, []⟩]) B [] H1 (M ++ [d0])) (st : Step n0 cs (cs ++ [⟨q, []⟩]) H H1)
    (he : ER g cs H (NV cs B) env σ) (hl : cs.length = M.length) (r : RW g (cs ++ [⟨q, []⟩]) H1 (NV (cs ++ [⟨q, []⟩]) B) (.c i) v) (hn : n0 ≤ i) (ho : owned fd = true) (h : fnewM (.c i) fd d0 M = some M')
    (fin : ∀ cs' σ' H', Step n0 cs cs' H H' → ER g cs' H' (NV cs' B) env σ' → MR g cs' B [] H' M' → dd.nx σ' H') :
    ∃ a C dx fs, v = .ref a ∧ H1 a = some (.ins C dx fs) ∧ Cls X.K C ∧ NoAttr X.K C fd.nm ∧ fs.length < 1000 ∧ dd.nx σ (upd H1 a (.ins C dx (putF fd.nm (.ref q) fs))) := by
  simp only [fnewM] at h
  cases hM : M[i]? with
  | none => rw [hM] at h; cases h
  | some d =>
    rw [hM] at h
    cases d with
    | ins cc ks ds =>
      simp only at h
      split at h
      · rename_i hok
        obtain ⟨hok, hlen, hnk⟩ := hok
        cases h
        have hiM := (List.getElem?_eq_some_iff.mp hM).1
        cases r with
        | c hca =>
          rename_i ca
          have hi : i < cs.length := by omega
          have hca0 : cs[i]? = some ca := by rw [List.getElem?_append_left hi] at hca; exact hca
          have hMp : (M ++ [d0])[i]? = some (.ins cc ks ds) := by rw [List.getElem?_append_left hiM]; exact hM
          obtain ⟨dx, fvs, hc, hH, ek, fl, nd⟩ := cell_ins m1 hca hMp
          have hcq : (cs ++ [CA.mk q []])[cs.length]? = some ⟨q, []⟩ := by rw [List.getElem?_append_right (Nat.le_refl _), Nat.sub_self]; rfl
          have hmq : (M ++ [d0])[cs.length]? = some d0 := by rw [hl, List.getElem?_append_right (Nat.le_refl _), Nat.sub_self]; rfl
          have hcell : Cont g [] H1 (NV (cs ++ [⟨q, []⟩]) B) q d0 := by
            have := m1.at_ _ _ _ hcq hmq
            rcases hd0 with rfl | rfl
            · cases this with | c h => exact h
            · cases this with | c h => exact h
          have hmem : ca.a ∈ ca.all := List.mem_cons_self
          have haq : ca.a ≠ q := fun z => av_apart m1.nd hca hcq (by omega) hmem List.mem_cons_self z.symm
          have hav := mem_av hca hmem
          have nall := av_own m1.nd hca
          refine ⟨ca.a, g.cA cc, dx, fvs, rfl, hH, F.cls cc hc, F.na cc fd hc hok, ?_, ?_⟩
          · have : (fvs.map (·.1)).length = (ks.map Fd.nm).length := by rw [ek]
            rw [List.length_map, List.length_map] at this
            omega
          · let ca' : CA := ⟨ca.a, ca.own ++ [(fd, q)]⟩
            have hperm : ca'.all.Perm (q :: ca.all) := by
              show (ca.a :: (ca.own ++ [(fd, q)]).map (·.2)).Perm (q :: ca.a :: ca.own.map (·.2))
              rw [List.map_append]
              refine (List.Perm.cons ca.a ?_).trans (List.Perm.swap ..)
              exact List.perm_append_comm
            have hpav : (av (cs.set i ca')).Perm (q :: av cs) := av_setP hperm hca0
            have hpav2 : (av (cs ++ [CA.mk q []])).Perm (q :: av cs) := by
              rw [av_app, av_one]
              exact List.perm_append_comm
            have mem_iff : ∀ x, x ∈ av (cs.set i ca') ↔ x ∈ av (cs ++ [CA.mk q []]) := fun x => (hpav.mem_iff).trans (hpav2.mem_iff).symm
            have nv_sub : ∀ x, x ∈ NV (cs.set i ca') B → x ∈ NV (cs ++ [⟨q, []⟩]) B := fun x hx => by
              rcases List.mem_append.mp hx with z | z
              · exact List.mem_append_left _ ((mem_iff x).mp z)
              · exact List.mem_append_right _ z
            have ks' : (putF fd.nm (.ref q) fvs) = fvs ++ [(fd.nm, V.ref q)] := putF_new fun z => by
              rw [ek] at z
              obtain ⟨k', hk', e⟩ := List.mem_map.mp z
              exact hnk (by rw [← Fd.inj e]; exact hk')
            rw [ks']
            let Hn : Hp := upd H1 ca.a (.ins (g.cA cc) dx (fvs ++ [(fd.nm, .ref q)]))
            have kp : Keep H1 (NV (cs ++ [⟨q, []⟩]) B) Hn (NV (cs.set i ca') B) := ⟨fun b u hb nb => by
              show upd _ _ _ _ = _
              rw [upd_ne (fun z => nb (by rw [z]; exact List.mem_append_left _ hav))]; exact hb, fun b u _ nb z => nb (nv_sub b z)⟩
            have keepNe : ∀ b, b ≠ ca.a → ∀ o, H1 b = some o → Hn b = some o := fun b hb o h => by
              show upd _ _ _ _ = _
              rw [upd_ne hb]; exact h
            have ndn : (av (cs.set i ca')).Nodup := (hpav.trans hpav2.symm).nodup_iff.mpr m1.nd
            have stN : Step n0 cs (cs.set i ca') H Hn := by
              refine ⟨fun b o hb nb => ?_, fun j cj hj => ?_, fun j hj => ?_, fun b hb => ?_⟩
              · rcases nb with nb | nb
                · have hb1 := st.ext b o hb (.inl nb)
                  refine keepNe b (fun z => nb ?_) o hb1
                  rw [z]; exact mem_av hca0 hmem
                · cases nb
              · by_cases hji : j = i
                · subst hji
                  rw [hca0] at hj; cases hj
                  exact ⟨ca', by rw [List.getElem?_set_self hi], rfl, fun pp hp => List.mem_append_left _ hp⟩
                · exact ⟨cj, by rw [List.getElem?_set_ne (Ne.symm hji)]; exact hj, rfl, fun pp hp => hp⟩
              · rw [List.getElem?_set_ne (by omega)]
              · have := (mem_iff b).mp hb
                rw [av_app, List.mem_append, av_one] at this
                refine this.imp id fun z => ?_
                rcases List.mem_cons.mp z with z | z
                · rw [z]; exact hq
                · cases z
            refine fin (cs.set i ca') σ Hn stN (stN.er he) ⟨?_, ndn, fun j cj dj h1 h2 => ?_, fun b hb => ?_, fun b hb z => m1.dj b hb ((mem_iff b).mp z)⟩
            · rw [List.length_set, List.length_set]; exact hl
            · by_cases hji : j = i
              · subst hji
                rw [List.getElem?_set_self hi] at h1
                rw [List.getElem?_set_self (by omega)] at h2
                cases h1; cases h2
                have cq : Cont g [] Hn (NV (cs.set j ca') B) q d0 := hcell.keep kp (keepNe q (Ne.symm haq))
                have flk : Fl g [] Hn (NV (cs.set j ca') B) ks ds (fvs.map (·.2)) ca.own := fl.keep kp fun qq hqq o h => keepNe _ (fun z => (List.nodup_cons.mp nall).1 (by rw [← z]; exact List.mem_map.mpr ⟨qq, hqq, rfl⟩)) o h
                refine .ins hc (show upd _ _ _ _ = _ from upd_same) ?_ (List.map_append ..) (flk.snoc ho cq) ?_
                · rw [List.map_append, List.map_append, ek]; rfl
                · exact List.nodup_append.mpr ⟨nd, by simp, fun x hx y hy e => hnk (by have : y = fd := (by simpa using hy); rw [← this, ← e]; exact hx)⟩
              · rw [List.getElem?_set_ne (Ne.symm hji)] at h1 h2
                have hj : j < cs.length := (List.getElem?_eq_some_iff.mp h1).1
                have h1' : (cs ++ [CA.mk q []])[j]? = some cj := by rw [List.getElem?_append_left hj]; exact h1
                have h2' : (M ++ [d0])[j]? = some dj := by rw [List.getElem?_append_left (by omega)]; exact h2
                exact (m1.at_ j cj dj h1' h2').keep kp fun b hb o h => keepNe b (av_apart m1.nd hca h1' (Ne.symm hji) hmem hb) o h
            · obtain ⟨vs, hv⟩ := m1.bt b hb
              exact ⟨vs, keepNe b (fun z => m1.dj b hb (by rw [z]; exact hav)) _ hv⟩
      · cases h
    | _ => cases h
theorem js_fnewL (F : GF g X) {fd : Fd} (ja : ∀ Wx', JE g X Wx' cl (.var i) x) : JS g X Wx cl n0 (.fnew (.var i) fd (.lst .nil)) (.Assign [.Attribute x fd.nm p] (.List [] p2) pos) := fun env M σ H cs B D hn he m post => by
  refine SemS.of (ps_fld pe_sem (pe_lst pa_nil) (swaps_no rfl)) ?_
  simp only [evS, evE, evEs, allV, Rs.bind, List.length_nil, Nat.zero_le, if_true, onR] at post
  refine ⟨Nat.zero_le _, fun q hq => ?_⟩
  have hk : ∀ a o, H a = some o → upd H q (.lst []) a = some o := fun a o h => by rw [upd_ne (ne_of_none h hq)]; exact h
  have fr : ∀ a ∈ (CA.mk q []).all, H a = none := fun a ha => by
    rcases List.mem_cons.mp ha with e | e
    · rw [e]; exact hq
    · cases e
  have st : Step n0 cs (cs ++ [⟨q, []⟩]) H (upd H q (.lst [])) := Step.push hk fr hn
  have m1 : MR g (cs ++ [⟨q, []⟩]) B [] (upd H q (.lst [])) (M ++ [.lst []]) := m.push hk (by simp [CA.all]) fr (.c (.lst upd_same .nil))
  cases hw : env[i]? with
  | none => rw [hw] at post; exact post.elim
  | some o =>
    cases o with
    | none => rw [hw] at post; exact post.elim
    | some w =>
      rw [hw] at post
      cases w with
      | c ii =>
        simp only at post
        split at post
        · rename_i hc
          rw [Bool.and_eq_true] at hc
          obtain ⟨M', h', p'⟩ := nxO_post post
          refine ja noX env (M ++ [.lst []]) σ _ (cs ++ [⟨q, []⟩]) B [] _ (.inl rfl) (st.er he) m1 ?_
          simp only [evE, hw]
          intro v H' e1 m2 r2
          have hHH : Step n0 cs (cs ++ [⟨q, []⟩]) H H' := st.trans (.of e1)
          refine fnew_core F (.inl rfl) hq Ext.refl m2 hHH he m.len ?_ (of_decide_eq_true hc.2) hc.1 h' p'
          cases r2 with
          | c h => exact .c h
        · exact post.elim
      | n ys => exact post.elim
      | v d => simp only [mine, Bool.and_false, Bool.false_eq_true, if_false] at post; exact post.elim
      | f j gg => simp only [mine, Bool.and_false, Bool.false_eq_true, if_false] at post; exact post.elim
theorem js_fnewK (F : GF g X) {fd : Fd} (ja : ∀ Wx', JE g X Wx' cl (.var i) x) : JS g X Wx cl n0 (.fnew (.var i) fd .newK) (.Assign [.Attribute x fd.nm p] (.Dict [] [] p2) pos) := fun env M σ H cs B D hn he m post => by
  refine SemS.of (ps_fld pe_sem pe_dnewK (swaps_no rfl)) ?_
  simp only [evS, evE, onR] at post
  refine fun q hq => ?_
  have hk : ∀ a o, H a = some o → upd H q (.dK []) a = some o := fun a o h => by rw [upd_ne (ne_of_none h hq)]; exact h
  have fr : ∀ a ∈ (CA.mk q []).all, H a = none := fun a ha => by
    rcases List.mem_cons.mp ha with e | e
    · rw [e]; exact hq
    · cases e
  have st : Step n0 cs (cs ++ [⟨q, []⟩]) H (upd H q (.dK [])) := Step.push hk fr hn
  have m1 : MR g (cs ++ [⟨q, []⟩]) B [] (upd H q (.dK [])) (M ++ [.dK [] []]) := m.push hk (by simp [CA.all]) fr (.c (.dK (kvs := []) (.inl upd_same) rfl List.nodup_nil .nil))
  cases hw : env[i]? with
  | none => rw [hw] at post; exact post.elim
  | some o =>
    cases o with
    | none => rw [hw] at post; exact post.elim
    | some w =>
      rw [hw] at post
      cases w with
      | c ii =>
        simp only at post
        split at post
        · rename_i hc
          rw [Bool.and_eq_true] at hc
          obtain ⟨M', h', p'⟩ := nxO_post post
          refine ja noX env (M ++ [.dK [] []]) σ _ (cs ++ [⟨q, []⟩]) B [] _ (.inl rfl) (st.er he) m1 ?_
          simp only [evE, hw]
          intro v H' e1 m2 r2
          have hHH : Step n0 cs (cs ++ [⟨q, []⟩]) H H' := st.trans (.of e1)
          refine fnew_core F (.inr rfl) hq Ext.refl m2 hHH he m.len ?_ (of_decide_eq_true hc.2) hc.1 h' p'
          cases r2 with
          | c h => exact .c h
        · exact post.elim
      | n ys => exact post.elim
      | v d => simp only [mine, Bool.and_false, Bool.false_eq_true, if_false] at post; exact post.elim
      | f j gg => simp only [mine, Bool.and_false, Bool.false_eq_true, if_false] at post; exact post.elim
end
end Bf

set_option Elab.async false
set_option linter.all false
set_option maxHeartbeats 1000000
set_option maxRecDepth 10000
/-! return [..] of the def's own containers; two clauses stored; for over dicts. -/
namespace Bf
open PySem PySem.Spec PyProof.Rows L2
section
variable {g : Glo} {X : Cx} {Wx : WX} {cl : Nat → List W → Mem → Rs W} {n0 k : Nat} {pos p p2 apos cpos : Pos} {a b c : E} {x y z t iter : Expr} {es : Es} {xs : List Expr} {cs : List CA} {B : List Addr} {i j f np : Nat} {nm fn : PySem.Str} {tg : Tg} {body : Ss} {sts : List Stmt}
theorem valWs_rl {H : Hp} {M : Mem} (m : MR g cs B [] H M) : ∀ {ws : List W} {vs : List V} {ds : List D}, RSs g cs B H ws vs → valWs n0 M ws = some ds → Rl g H (NV (cs.take n0) B) ds vs
  | _, _, _, .nil, e => by cases e; exact .nil
  | _, _, ds, .cons (w := w) (ws := ws) r t, e => by
    simp only [valWs] at e
    cases h1 : valW n0 M w with
    | none => rw [h1] at e; simp at e
    | some d =>
      cases h2 : valWs n0 M ws with
      | none => rw [h1, h2] at e; simp at e
      | some ds' =>
        rw [h1, h2] at e; cases e
        refine .cons ?_ (valWs_rl m t h2)
        cases w with
        | v d' => cases h1; cases r with | v r => exact r.keep (keep_sub NV_take)
        | n ys => cases h1; cases r with | n h3 h4 h5 => exact .lst h3 (fun z => h4 (NV_take _ z)) (h5.keep (keep_sub NV_take))
        | c i =>
          simp only [valW] at h1
          cases hM : M[i]? with
          | none => rw [hM] at h1; cases h1
          | some d' =>
            rw [hM] at h1
            simp only at h1
            split at h1
            · rename_i hc
              cases h1
              cases r with
              | c hca => exact cellV m hca hM hc.2
            · cases h1
        | f => cases h1
theorem js_retL (ja : JA g X Wx cl es xs) : JS g X Wx cl n0 (.retL es) (.Return (some (.List xs p)) pos) := fun env M σ H cs B D hn he m post => by
  refine SemS.of (ps_ret (pe_lst pa_sem)) ?_
  simp only [evS] at post
  refine (ja env M σ H cs B [] _ (.inl rfl) he m (onR_post (rel := relA g cs B) he post)).mono fun vs H1 ⟨ws, M1, e1, m1, r1, p1⟩ => ?_
  cases hv : valWs n0 M1 ws with
  | none => rw [hv] at p1; exact p1.elim
  | some ds =>
    rw [hv] at p1
    simp only at p1
    by_cases hz : ds.length ≤ LIM
    · rw [if_pos hz] at p1
      have rl := valWs_rl m1 r1 hv
      refine ⟨by rw [rl.length]; exact sz_lim hz, fun p hp => p1 cs _ _ (.of (Ext.upd hp)) (m1.fresh hp) (.inr ⟨_, rfl, .lst upd_same (fun z => not_NV m1 hp (NV_take _ z)) (rl.keep (keepN hp))⟩)⟩
    · rw [if_neg hz] at p1; exact p1.elim
/-- name = [.. for .. for ..] -/
theorem js_setLc2 {t2 iter2 : Expr} {scope : Scope} {own : List (PySem.Str × Nat)} {vs1 : List Nat} {ir : E} (G : Gd g k X) (st : Stor X i nm) (hloc : X.env.scope.names.lookup nm = some .local) (ok : BlkOk X.N X.env.scope scope own) (hs : notSet iter = true) (hs2 : notSet iter2 = true) (hv : ∀ i, i ∈ vs1 → i ∈ own.map (·.2))
    (hsw : swapsWith (.ListComp y [⟨t, iter, [], 0⟩, ⟨t2, iter2, [], 0⟩] scope p2) (some (.Name nm p)) pos.line X.env = pure true) (jl : JL2 g X Wx cl ir scope (own.map (·.2)) vs1 y t iter t2 iter2) : JS g X Wx cl n0 (.set i ir) (.Assign [.Name nm p] (.ListComp y [⟨t, iter, [], 0⟩, ⟨t2, iter2, [], 0⟩] scope p2) pos) := fun env M σ H cs B D hn he m post => by
  have ps : PS X (.Assign [.Name nm p] (.ListComp y [⟨t, iter, [], 0⟩, ⟨t2, iter2, [], 0⟩] scope p2) pos) (tAsg (tLc2 (SemI X t iter) (gU X scope t) tYes (iU X scope t2 iter2) (gU X scope t2) tYes (eU X scope y) (own.map (·.2)) vs1) (gName i)) :=
    ps_setLc2 G.calm G.nd st.ix hloc hsw pi_sem ok hv (fun s H0 C cl fp => ⟨fun pins s' σ H v u Q I r h => h s H0 C cl fp pins s' u I r⟩) (fun s H0 C cl fp => pts_nil)
      (fun s H0 C cl fp => ⟨fun pins s' σ H R I h => h s H0 C cl fp pins s' I⟩) (fun s H0 C cl fp => ⟨fun pins s' σ H v u Q I r h => h s H0 C cl fp pins s' u I r⟩) (fun s H0 C cl fp => pts_nil) (fun s H0 C cl fp => ⟨fun pins s' σ H Q I h => h s H0 C cl fp pins s' I⟩) (folded_of hs) (fun env => folded_of hs2)
  refine SemS.of ps ?_
  simp only [evS] at post
  refine jl env M σ H cs B _ he m (Post.mono (toV_postS he m post) fun v H1 ⟨w, M1, e1, m1, r1, p1⟩ => ?_)
  have he1 := he.keep e1.keep
  cases w with
  | f => exact p1.elim
  | v d => exact p1 cs _ H1 .refl (he1.set (r1.rw m)) m1
  | c j => exact p1 cs _ H1 .refl (he1.set (r1.rw m)) m1
  | n xs => exact p1 cs _ H1 .refl (he1.set (r1.rw m)) m1
/-- a, b = [], []: two new cells -/
theorem js_parC (G : Gd g k X) (sti : X.N[i]? = some nm) (stj : X.N[j]? = some fn) (hij : i ≠ j) (hx : X.env.scope.names.lookup nm = some .local) (hy : X.env.scope.names.lookup fn = some .local) {kt k2 : Nat} {pt pt2 p3 p4 : Pos}
    (hw : swappedStores [.Tuple [.Name nm p, .Name fn p2] kt pt] (.Tuple [.List [] p3, .List [] p4] k2 pt2) X.env = pure (some [nm, fn])) :
    JS g X Wx cl n0 (.parC i j) (.Assign [.Tuple [.Name nm p, .Name fn p2] kt pt] (.Tuple [.List [] p3, .List [] p4] k2 pt2) pos) := fun env M σ H cs B D hn he m post => by
  refine SemS.of (ps_par G.calm G.nd sti stj hij hx hy (pa_cons (pe_lst pa_nil) (pa_cons (pe_lst pa_nil) pa_nil (star_cons rfl)) (star_cons rfl)) hw rfl) ?_
  simp only [evS] at post
  refine ⟨Nat.zero_le _, fun q hq => ⟨Nat.zero_le _, fun q2 hq2 => ⟨_, _, rfl, ?_⟩⟩⟩
  have st1 : ∀ {cs : List CA} {H : Hp} {M : Mem} {q : Addr}, n0 ≤ cs.length → MR g cs B [] H M → H q = none → Step n0 cs (cs ++ [⟨q, []⟩]) H (upd H q (.lst [])) ∧ MR g (cs ++ [⟨q, []⟩]) B [] (upd H q (.lst [])) (M ++ [.lst []]) := fun {cs H M q} hn m hq => by
    have hk : ∀ a o, H a = some o → upd H q (.lst []) a = some o := fun a o h => by rw [upd_ne (ne_of_none h hq)]; exact h
    have fr : ∀ a ∈ (CA.mk q []).all, H a = none := fun a ha => by
      rcases List.mem_cons.mp ha with e | e
      · rw [e]; exact hq
      · cases e
    exact ⟨Step.push hk fr hn, m.push hk (by simp [CA.all]) fr (.c (.lst upd_same .nil))⟩
  obtain ⟨sa, ma⟩ := st1 hn m hq
  obtain ⟨sb, mb⟩ := st1 (cs := cs ++ [⟨q, []⟩]) (by rw [List.length_append]; omega) ma hq2
  have ea := er_cell (i := i) sa he m.len
  have eb := er_cell (i := j) sb ea ma.len
  rw [List.length_append] at eb
  exact post _ _ _ (sa.trans sb) eb mb
end
end Bf

set_option Elab.async false
set_option linter.all false
set_option maxHeartbeats 1000000
set_option maxRecDepth 10000
/-! for x in d: .., for a, b in d.items(): .. -/
namespace Bf
open PySem PySem.Spec PyProof.Rows L2
section
variable {g : Glo} {X : Cx} {Wx : WX} {cl : Nat → List W → Mem → Rs W} {n0 k : Nat} {pos p p2 apos cpos : Pos} {a b c : E} {x y z t iter : Expr} {cs : List CA} {B : List Addr} {tg : Tg} {body : Ss} {sts : List Stmt}
theorem RT.swapB {cs' : List CA} {H H2 H' : Hp} {M' : Mem} {w : W} {v : V} {q : Addr} {od : Obj} {u : HO} (hq : H2 q = some (.frz od u)) (hH : ∀ a, a ≠ q → H a = H2 a) (hqc : q ∉ av cs') (sw : Swap q u H' (upd H' q u)) (h : RT g n0 cs' B H2 H' M' w v) : RT g n0 cs' B H (upd H' q u) M' w v := by
  rcases h with h | ⟨d, e, r⟩
  · cases h with
    | v r => exact .inl (.v (r.swap sw))
    | c h => exact .inl (.c h)
    | f h z => exact .inl (.f h z)
    | n h1 h2 h3 h4 h5 =>
      rename_i pp vs xs
      have hp : pp ≠ q := fun z => by rw [z, hq] at h1; cases h1
      exact .inl (.n (by rw [hH pp hp]; exact h1) h2 (by rw [upd_ne hp]; exact h3) (h4.swap sw (fun z => absurd z hqc) fun a z => by cases z) (h5.swap sw))
  · exact .inr ⟨d, e, r.swap sw⟩
theorem loopD_core (G : Gd g k X) (hp : PassesOwn (model X.prog X.w) X.A X.env X.xe) (hs : notSet iter = true) (jg : JG g X tg t) (jb : JSs g X Wx cl n0 body sts) {env : Env} {M : Mem} {σ : L2.St} {H : Hp} {D : Ends} {w : W} {q : Addr} {u : HO} {ds : List Bf.D} {jt : Obj → L2.It} {Iv : List Addr → Obj → Hp → List Addr → Prop}
    (hn : n0 ≤ cs.length) (he : ER g cs H (NV cs B) env σ) (m : MR g cs B [] H M) (src : Src cs H (NV cs B) w q u) (hw : isCell w = false) (hu : isDO u = true) (hmut : Mut (some u))
    (semI : ∀ H2 od R, Ins H H2 → H2 q = some (.frz od u) → R (jt od) H2 → SemI X t iter σ H2 R) (wk : ∀ od, Walk g [] (jt od) ds (Iv [] od))
    (ivm : ∀ od H2, H2 q = some (.frz od u) → q ∉ NV cs B → (∀ xs vs, Rl g H (NV cs B) xs vs → Rl g H2 (NV cs B) xs vs) → Iv [] od H2 (NV cs B))
    (post : PostS g n0 cs B Wx H (noExT (loopR (lpF cl n0 tg body) ds env M)) D) : SemS X (.For t iter sts [] pos) D σ H := by
  have ps : PS X (.For t iter sts [] pos) (tFor (SemI X t iter) (SemG X t) (SemSs X sts)) := ps_for hp G.calm pi_sem pg_sem pss_sem (folded_of hs)
  have nex : ∀ {H : Hp} {D : Ends}, PostS g n0 cs B Wx H (noExT (loopR (lpF cl n0 tg body) ds env M)) D → PostS g n0 cs B Wx H (loopR (lpF cl n0 tg body) ds env M) D := fun {H D} h => by
    cases hr : loopR (lpF cl n0 tg body) ds env M with
    | ex => rw [hr] at h; exact h.elim
    | _ => rw [hr] at h; exact h
  rcases src.at_ with ⟨hq, hcase⟩ | ⟨od, hq, hn2, _⟩
  · rcases hcase with ⟨hnv, _⟩ | ⟨_, hw2⟩
    · refine SemS.of (ps_lock ps) ⟨q, u, hq, hmut, fun od => ?_⟩
      have hq2 : upd H q (.frz od u) q = some (.frz od u) := upd_same
      have sw : Swap q u H (upd H q (.frz od u)) := ⟨fun a o n h => by rw [upd_ne n]; exact h, .inl hq, .inr ⟨od, hq2⟩, hu⟩
      have mL : MR g cs B [] (upd H q (.frz od u)) M := m.swap sw (fun z => absurd z (not_av hnv)) fun a z => by cases z
      refine semI _ od _ (ins_upd src.rd hu) hq2 ?_
      refine loop_main jg jb (wk od) hn (he.swap sw) mL (ivm od _ hq2 hnv fun xs vs r => r.swap sw) ?_
      -- what follows, unlocked
      have hqc : ∀ {cs' : List CA} {H' : Hp}, Step n0 cs cs' (upd H q (.frz od u)) H' → q ∉ av cs' := fun st z => by
        rcases st.new q z with z | z
        · exact not_av hnv z
        · rw [hq2] at z; cases z
      have stp : ∀ {cs' : List CA} {H' : Hp}, Step n0 cs cs' (upd H q (.frz od u)) H' → H' q = some (.frz od u) ∧ Step n0 cs cs' H (upd H' q u) := fun {cs' H'} st => by
        have hq' := st.ext q _ hq2 (.inl (not_av hnv))
        refine ⟨hq', fun b o hb nb => ?_, st.gro, st.fix, fun b hb => ?_⟩
        · by_cases e : b = q
          · subst e; rw [hq] at hb; cases hb; exact upd_same
          · rw [upd_ne e]
            exact st.ext b o (by rw [upd_ne e]; exact hb) nb
        · refine (st.new b hb).imp id fun z => ?_
          by_cases e : b = q
          · subst e; rw [hq2] at z; cases z
          · rw [upd_ne e] at z; exact z
      have swb : ∀ {H' : Hp}, H' q = some (.frz od u) → Swap q u H' (upd H' q u) := fun hq' => ⟨fun a o n h => by rw [upd_ne n]; exact h, .inr ⟨od, hq'⟩, .inl upd_same, hu⟩
      have post0 := post
      have post := nex post
      cases hr : loopR (lpF cl n0 tg body) ds env M with
      | no => rw [hr] at post; exact post.elim
      | nx e M' =>
        rw [hr] at post
        intro cs' σ' H' st er mr
        obtain ⟨hq', st'⟩ := stp st
        exact ⟨hq', post cs' σ' _ st' (er.swap (swb hq')) (mr.swap (swb hq') (fun z => absurd z (hqc st)) fun a z => by cases z)⟩
      | rt w' M' =>
        rw [hr] at post
        intro cs' v H' st mr rt
        obtain ⟨hq', st'⟩ := stp st
        exact ⟨hq', post cs' v _ st' (mr.swap (swb hq') (fun z => absurd z (hqc st)) fun a z => by cases z) (rt.swapB hq2 (fun a ha => (upd_ne ha).symm) (hqc st) (swb hq'))⟩
      | ex c f e M' =>
        rw [hr] at post0
        exact post0.elim
    · rw [hw] at hw2; cases hw2
  · refine SemS.of ps ?_
    refine semI H od _ (fun _ _ _ _ h => h) hq ?_
    exact loop_main jg jb (wk od) hn he m (ivm od _ hq hn2 fun _ _ r => r) (nex post)
theorem js_loopKeys (G : Gd g k X) (hp : PassesOwn (model X.prog X.w) X.A X.env X.xe) (hs : notSet x = true) (jp : JP g X cl a x) (jg : JG g X tg t) (jb : JSs g X Wx cl n0 body sts) : JS g X Wx cl n0 (.loopD tg (.keys a) body) (.For t x sts [] pos) := fun env M σ H cs B D hn he m post => by
  simp only [evS] at post
  cases hpa : isPath a with
  | false => simp only [evIt, hpa, onR] at post; exact post.elim
  | true =>
    cases hr : evE cl a env M with
    | no => simp only [evIt, hpa, hr, Rs.bind, onR] at post; exact post.elim
    | ex => exact absurd hr (path_noex hpa _ _ _)
    | ok w M1 =>
      obtain ⟨rfl, v, rw1, sem⟩ := jp env M σ H cs B [] he m w M1 hr
      simp only [evIt, hpa, hr, Rs.bind] at post
      cases hw : w.get M1 with
      | none => rw [hw] at post; exact post.elim
      | some d =>
        rw [hw] at post
        obtain ⟨d1, d2⟩ := dict_src m rw1 hw
        have fin : ∀ {xs : List Bf.D}, PostS g n0 cs B Wx H (onR (ofO (some xs) M1 |>.bind fun xs M2 => .ok (isCell w, xs) M2) env fun p M1 => if p.1 = true then .no else noExT (loopR (lpF cl n0 tg body) p.2 env M1)) D → isCell w = false ∧ PostS g n0 cs B Wx H (noExT (loopR (lpF cl n0 tg body) xs env M1)) D := fun {xs} h => by
          simp only [ofO, Rs.bind, onR] at h
          by_cases hc : isCell w = true
          · rw [if_pos hc] at h; exact h.elim
          · rw [if_neg hc] at h
            exact ⟨by cases h : isCell w <;> simp_all, h⟩
        cases d with
        | dK ks xs =>
          obtain ⟨q, kvs, rfl, ek, rl, src⟩ := d1 ks xs rfl
          subst ek
          obtain ⟨hc, post⟩ := fin post
          exact loopD_core G hp hs jg jb (jt := fun od => Itk q od kvs) (Iv := fun L od => IvD g L q od kvs xs) hn he m src hc rfl (by trivial)
            (fun H2 od R ins h2 hR => SemI.of (pi_keys pe_sem) (sem H2 ins _ ⟨q, od, rfl, .inl ⟨kvs, h2, hR⟩⟩)) (fun od => walk_dK) (fun od H2 h2 hn kr => ⟨h2, .inl hn, kr _ _ rl⟩) post
        | dT ks xs =>
          obtain ⟨q, kvs, rfl, ek, rl, src⟩ := d2 ks xs rfl
          subst ek
          obtain ⟨hc, post⟩ := fin post
          exact loopD_core G hp hs jg jb (jt := fun od => Itkt q od kvs) (Iv := fun L od => IvDT g L q od kvs) hn he m src hc rfl (by trivial)
            (fun H2 od R ins h2 hR => SemI.of (pi_keys pe_sem) (sem H2 ins _ ⟨q, od, rfl, .inr ⟨kvs, h2, hR⟩⟩)) (fun od => walk_dT) (fun od H2 h2 hn kr => ⟨h2, .inl hn⟩) post
        | _ => exact post.elim
theorem js_loopItems {elts : List Expr} {kk : Nat} {tpos : Pos} (G : Gd g k X) (hp : PassesOwn (model X.prog X.w) X.A X.env X.xe) (hb : notSup x = true) (hline : (apos.endLine == cpos.line) = true) (jp : JP g X cl a x) (jg : JG g X tg (.Tuple elts kk tpos)) (jb : JSs g X Wx cl n0 body sts) :
    JS g X Wx cl n0 (.loopD tg (.items a) body) (.For (.Tuple elts kk tpos) (.Call (.Attribute x "items" apos) [] [] cpos) sts [] pos) := fun env M σ H cs B D hn he m post => by
  simp only [evS] at post
  cases hpa : isPath a with
  | false => simp only [evIt, hpa, onR] at post; exact post.elim
  | true =>
    cases hr : evE cl a env M with
    | no => simp only [evIt, hpa, hr, Rs.bind, onR] at post; exact post.elim
    | ex => exact absurd hr (path_noex hpa _ _ _)
    | ok w M1 =>
      obtain ⟨rfl, v, rw1, sem⟩ := jp env M σ H cs B [] he m w M1 hr
      simp only [evIt, hpa, hr, Rs.bind] at post
      cases hw : w.get M1 with
      | none => rw [hw] at post; exact post.elim
      | some d =>
        rw [hw] at post
        obtain ⟨d1, d2⟩ := dict_src m rw1 hw
        cases d with
        | dK ks xs =>
          obtain ⟨q, kvs, rfl, ek, rl, src⟩ := d1 ks xs rfl
          subst ek
          simp only [onR] at post
          by_cases hc : isCell w = true
          · rw [if_pos hc] at post; exact post.elim
          · rw [if_neg hc] at post
            have hc : isCell w = false := by cases h : isCell w <;> simp_all
            exact loopD_core G hp rfl jg jb (jt := fun od => Iti q od kvs) (Iv := fun L od => IvD g L q od kvs xs) hn he m src hc rfl (by trivial)
              (fun H2 od R ins h2 hR => SemI.of (pi_items pe_sem (base_ok hb) hline) (sem H2 ins _ ⟨q, od, kvs, rfl, h2, hR⟩)) (fun od => walk_dI (by have := rl.length; simpa using this.symm)) (fun od H2 h2 hn kr => ⟨h2, .inl hn, kr _ _ rl⟩) post
        | _ => exact post.elim
end
end Bf

set_option Elab.async false
set_option linter.all false
set_option maxHeartbeats 1000000
set_option maxRecDepth 10000
/-! raise X(), try .. except X: .. -/
namespace Bf
open PySem PySem.Spec PyProof.Rows L2
/-- a written constant -/
def litM : D → Const → Bool
  | .non, .none => true
  | .bl b, .bool b' => b == b'
  | .int i, .int i' => decide (i = i')
  | .str s, .str s' => decide (s = s')
  | _, _ => false
def litP (d : D) (c : Const) : Prop := match d, c with
    | .non, .none => True
    | .bl b, .bool b' => b = b'
    | .int i, .int i' => i = i'
    | .str s, .str s' => s = s'
    | _, _ => False
theorem litM_ok {d : D} {c : Const} (h : litM d c = true) : litP d c := by
  cases d <;> cases c <;> first
    | cases h; done
    | trivial
    | exact (eq_of_beq h : _)
    | exact (of_decide_eq_true h : _)
/-- an except suite: its text -/
inductive SuOk (X : Cx) : Su → List Stmt → Prop
  | lit {i : Nat} {nm : PySem.Str} {d : D} {c : Const} {j : Nat} {p p2 pos : Pos} : Stor X i nm → litM d c = true → SuOk X (.lit i d) [.Assign [.Name nm p] (.Constant c j p2) pos]
  | inc {i : Nat} {nm : PySem.Str} {j : Nat} {p p2 p3 p4 pos : Pos} : Stor X i nm → Vis X.env.scope nm → (nm == ("__debug__" : PySem.Str)) = false → (nm == ("__classdict__" : PySem.Str)) = false → SuOk X (.inc i) [.Assign [.Name nm p] (.BinOp (.Name nm p2) .Add (.Constant (.int 1) j p3) p4) pos]
/-- except clauses without names -/
inductive HsOk (g : Glo) (X : Cx) (xs : List Nat) : List (Nat × Option Nat × Su) → List ExceptHandler → Prop
  | nil : HsOk g X xs [] []
  | cons {bb : Nat} {su : Su} {nm : PySem.Str} {b₀ : Stmt} {suite : List Stmt} {np pos' : Pos} {hs : List (Nat × Option Nat × Su)} {hds : List ExceptHandler} : Names X nm (.ref (g.cA bb)) → (∀ c ∈ xs, PySem.W.exmOne X.K (.ref (g.cA c)) (.ref (g.cA bb)) = some (isSub c bb)) → SuOk X su (b₀ :: suite) → HsOk g X xs hs hds →
      HsOk g X xs ((bb, none, su) :: hs) (.ExceptHandler (some (.Name nm np)) none (b₀ :: suite) pos' :: hds)
section
variable {g : Glo} {X : Cx} {Wx : WX} {cl : Nat → List W → Mem → Rs W} {n0 k : Nat} {pos p p2 apos cpos : Pos} {a b c : E} {x y z t iter : Expr} {cs : List CA} {B : List Addr} {tg : Tg} {body : Ss} {sts : List Stmt} {i : Nat} {nm : PySem.Str}
theorem pmk_own0 {C : Addr} {bmB : List Value} {Bs newId initId : String} {x : PySem.Str} {p : Pos} (F : ExcBaseFacts Bs newId initId bmB) (q : PySem.W.excIn X.K C bmB newId = true) (gC : X.mg x = some (.ref C))
    (kC : PySem.W.keepIn X.K (.ref C) = true) (r : Raises X (.ref C)) (hg : Gl X x) (hdb : (x == ("__debug__" : PySem.Str)) = false) :
    PMk X (.Call (.Name x p) [] [] pos) (fun σ H Q => Q (.ref C) none H) := by
  intro pins s σ H Q I h
  refine wpAny_Call_Name_kw (ld_glob I hg gC ?_ hdb)
  refine PySem.W.callWith_K0 (first := []) I.kIn kC ?_
  show wpAny _ _ (call (.ref C) []) _ _ _
  obtain ⟨bm, N, nm, qn, bs, hdct, sn, sub, ab, col, dd, k0, k1, k2, k3, k5, mN, hC, hN, hni, T⟩ := exc_obj I.kIn q
  refine wpAny_call_exc_subT F T hC hN hni (fun h' e hm => ?_) (Nat.zero_le _)
  exact mk_of I hm r h (I.hok.gone hm.new)
/-- the facts of an exception class without own __init__ -/
structure XF (g : Glo) (X : Cx) (cc : Nat) (nm : PySem.Str) : Prop where
  q : PySem.W.excIn X.K (g.cA cc) He.veBase "ValueError.__new__" = true
  kC : PySem.W.keepIn X.K (.ref (g.cA cc)) = true
  r : Raises X (.ref (g.cA cc))
  mg : X.mg nm = some (.ref (g.cA cc))
theorem js_raise0 (G : Gd g k X) (tk : Takes X Wx) {cc : Nat} (F : XF g X cc nm) (hg : Gl X nm) (hd : (nm == ("__debug__" : PySem.Str)) = false) : JS g X Wx cl n0 (.raise cc .nil) (.Raise (some (.Call (.Name nm p) [] [] cpos)) none pos) := fun env M σ H cs B D hn he m post => by
  refine SemS.of (ps_raise G.calm tk (pmk_own0 PySem.F.excBase_ValueError F.q F.mg F.kC F.r hg hd)) ?_
  simp only [evS, evEs, onR] at post
  exact post cs none σ H .refl he m (.inl ⟨rfl, rfl⟩)
theorem litM_pe {X : Cx} {d : D} {c : Const} {j : Nat} {σ : L2.St} {H : Hp} {Q : VK} (h : litM d c = true) (q : ∀ v, (∀ g H N, Rv g H N d v) → Q v H) : SemE X (.Constant c j pos) σ H Q := by
  have h := litM_ok h
  cases d <;> cases c <;> first
    | exact h.elim
    | exact SemE.of pe_non (q _ fun _ _ _ => .non)
    | (subst h; exact SemE.of pe_bl (q _ fun _ _ _ => .bl _))
    | (subst h; exact SemE.of pe_int (q _ fun _ _ _ => .int _))
    | (subst h; exact SemE.of pe_str (q _ fun _ _ _ => .str _))
theorem su_run (G : Gd g k X) {su : Su} {suite : List Stmt} (S : SuOk X su suite) {H : Hp} {M : Mem} {e : Env} {f : D} {σ : L2.St} {D : Ends} (er : ER g cs H (NV cs B) e σ) (m : MR g cs B [] H M) (post : PostS g n0 cs B Wx H (suR su f e M) D) (a : Addr) (pn : List (Addr × Obj)) :
    SemSs (X.suite a pn) suite D σ H := by
  cases S with
  | lit st hl =>
    refine SemSs.of (pss_cons ps_sem pss_nil) ?_
    refine SemS.of (ps_set (X := X.suite a pn) G.nd st.ix st.loc pe_sem (swaps_no rfl) st.fn) ?_
    refine litM_pe hl fun v hv => ?_
    exact post cs _ H .refl (er.set (.v (hv g H _))) m
  | inc st hv h1 h2 =>
    refine SemSs.of (pss_cons ps_sem pss_nil) ?_
    refine SemS.of (ps_set (X := X.suite a pn) G.nd st.ix st.loc (pe_op op_add (pe_var (X := X.suite a pn) st.ix hv h1 h2) pe_int) (swaps_no rfl) st.fn) ?_
    rename_i i nm j p p2 p3 p4 pos
    simp only [suR] at post
    cases hi : e[i]? with
    | none => rw [hi] at post; exact post.elim
    | some o =>
      rw [hi] at post
      cases o with
      | none => exact post.elim
      | some w =>
        cases w with
        | v d =>
          cases d with
          | int n =>
            obtain ⟨v, e1, r⟩ := er.at_ i _ hi
            cases r with
            | v r =>
              cases r
              exact ⟨_, e1, n, 1, rfl, rfl, post cs _ H .refl (er.set (.v (.int _))) m⟩
          | _ => exact post.elim
        | _ => exact post.elim
def tsOf (X : Cx) (suite : List Stmt) : Addr → Value → Option Addr → TS := fun a cls d D σ H => ∀ (oe : Obj) (pn : List (Addr × Obj)), SemSs (X.suite a ((a, oe) :: pn)) suite D σ H
theorem PostS.imp {H : Hp} {r : Rt} {D : Ends} {W' : WX} (h : ∀ c f e M', r ≠ .ex c f e M') (p : PostS g n0 cs B Wx H r D) : PostS g n0 cs B W' H r D := by
  cases r with
  | nx => exact p
  | rt => exact p
  | ex c f e M' => exact absurd rfl (h c f e M')
  | no => exact p
theorem hs_run (G : Gd g k X) {xs : List Nat} : ∀ {hs : List (Nat × Option Nat × Su)} {hds : List ExceptHandler}, HsOk g X xs hs hds → ∃ l : List (Value × (Addr → Value → Option Addr → TS)), HdsOk X hds l ∧
    ∀ {D : Ends} {cs : List CA} {H : Hp} {M : Mem} {e : Env} {σ : L2.St} {c : Nat} {f : Bf.D} {dd : Option Addr}, c ∈ xs → ER g cs H (NV cs B) e σ → MR g cs B [] H M → ExO g H (NV cs B) f dd → PostS g n0 cs B Wx H (caught c f e M hs) D → wMany X.K Wx D l (.ref (g.cA c)) dd σ H := by
  intro hs hds h
  induction h with
  | nil =>
    exact ⟨[], .nil, fun {D cs H M e σ c f dd} hc er m ex post => post cs dd σ H .refl er m ex⟩
  | @cons bb su nm b₀ suite np pos' hs hds hn hx hsu _ ih =>
    obtain ⟨l, hl, ih⟩ := ih
    refine ⟨(.ref (g.cA bb), tsOf X (b₀ :: suite)) :: l, .cons hn (fun a oe cls d pn _ _ => ⟨fun pins s σ H D I h => h oe pn pins s I⟩) hl, fun {D cs H M e σ c f dd} hc er m ex post => ?_⟩
    simp only [caught] at post
    refine ⟨isSub c bb, hx c hc, fun hb a ha oe pn => ?_, fun hb => ?_⟩
    · rw [if_pos hb] at post
      have post2 : PostS g n0 cs B Wx H (suR su f e M) D := by
        cases hr : suR su f e M with
        | nx e1 M1 => rw [hr] at post; exact post
        | rt w M1 => rw [hr] at post; exact post
        | ex c f e1 M1 => rw [hr] at post; exact post
        | no => rw [hr] at post; exact post
      exact su_run G hsu er m post2 a _
    · rw [if_neg (by rw [hb]; decide)] at post
      exact ih hc er m ex post
theorem js_try (G : Gd g k X) (hst : X.stack = X.env :: X.outer) (hf : X.env.frame = some X.env.locals) (tk : Takes X Wx) {xs : List Nat} {hs : List (Nat × Option Nat × Su)} {h₀ : ExceptHandler} {hds : List ExceptHandler} (hh : HsOk g X xs hs (h₀ :: hds))
    (jb : ∀ (W' : WX) (pn : List (Addr × Obj)) (xe : Value → Shared → Prop), Takes (X.tr pn xe) W' → PassesOwn (model X.prog X.w) X.A X.env xe → JSs g (X.tr pn xe) W' cl n0 body sts) : JS g X Wx cl n0 (.try_ xs body hs) (.Try sts (h₀ :: hds) [] [] pos) := fun env M σ H cs B D hn he m post => by
  obtain ⟨l, hl, run⟩ := hs_run (n0 := n0) (Wx := Wx) (B := B) G hh
  refine SemS.of (ps_try_many (tb := fun W' D σ H => ∀ (pn : List (Addr × Obj)) (xe : Value → Shared → Prop), Takes (X.tr pn xe) W' → PassesOwn (model X.prog X.w) X.A X.env xe → SemSs (X.tr pn xe) sts D σ H) hst hf tk (fun W' pn xe t1 t2 => ⟨fun pins s σ H D I h => h pn xe t1 t2 pins s I⟩) hl) ?_
  intro pn xe t1 t2
  refine jb _ pn xe t1 t2 env M σ H cs B D hn he m ?_
  simp only [evS] at post
  cases hr : evSs cl n0 body env M with
  | nx e1 M1 => rw [hr] at post; exact post
  | rt w M1 => rw [hr] at post; exact post
  | no => rw [hr] at post; exact post
  | ex c f e1 M1 =>
    rw [hr] at post
    simp only [tryR] at post
    by_cases hc : c ∈ xs
    · rw [if_pos hc] at post
      intro cs' dd σ' H' st er mr ex
      exact run hc er mr ex (PostS.later mr st post)
    · rw [if_neg hc] at post; exact post.elim
end
end Bf

set_option Elab.async false
set_option linter.all false
set_option maxHeartbeats 1000000
set_option maxRecDepth 10000
/-! A def keeps its promise. -/
namespace Bf
open PySem PySem.Spec PyProof.Rows L2
section
variable {g : Glo} {n0 : Nat} {cs cs' : List CA} {B : List Addr} {H H' : Hp} {M M' : Mem} {Wx : WX} {E : XK} {Q : VK}
theorem Step.take (hn : n0 ≤ cs.length) (s : Step n0 cs cs' H H') : Step n0 cs (cs'.take cs.length) H H' := by
  refine ⟨s.ext, fun i ca h => ?_, fun i hi => ?_, fun a ha => s.new a (av_take ha)⟩
  · obtain ⟨c1, a1, a2, a3⟩ := s.gro i ca h
    have hi := (List.getElem?_eq_some_iff.mp h).1
    exact ⟨c1, by rw [List.getElem?_take, if_pos hi]; exact a1, a2, a3⟩
  · rw [List.getElem?_take, if_pos (by omega)]
    exact s.fix i hi
theorem take_len (s : Step n0 cs cs' H H') : (cs'.take cs.length).length = cs.length := by
  rw [List.length_take]
  have := s.length
  omega
theorem RS.takeN {w : W} {v : V} {n : Nat} (m : MR g cs' B [] H' M') (h : RS g cs' B [] H H' M' w v) (hM : M'.length = cs'.length) {r : W} {M2 : Mem} (e : outW n w M' = .ok r M2) : M2 = M'.take n ∧ RS g (cs'.take n) B [] H H' (M'.take n) r v := by
  cases w with
  | v d =>
    simp only [outW] at e
    cases e
    refine ⟨rfl, ?_⟩
    cases h with | v rr => exact .v (rr.keep (keep_sub NV_take))
  | n xs =>
    simp only [outW] at e
    cases e
    refine ⟨rfl, ?_⟩
    cases h with
    | n h1 h2 h3 h4 h5 =>
      refine .n h1 (fun z => h2 (av_take z)) h3 (h4.take) (h5.keep (keep_sub NV_take))
  | c i =>
    simp only [outW] at e
    split at e
    · rename_i hi
      cases e
      refine ⟨rfl, ?_⟩
      cases h with
      | c hc => exact .c (by rw [List.getElem?_take, if_pos hi]; exact hc)
    · rename_i hi
      cases hMi : M'[i]? with
      | none => rw [hMi] at e; cases e
      | some d =>
        rw [hMi] at e
        simp only at e
        split at e
        · cases e
          refine ⟨rfl, ?_⟩
          cases h with
          | c hc => exact .v (cellV m hc hMi (by omega))
        · cases e
  | f i k => cases e
/-- a def's end, from its body's -/
theorem postF_S {r : Rt} (hn : n0 ≤ cs.length) (hl : cs.length = M.length) (h : PostF g n0 cs B E H (outR M.length r) Q) (hn2 : n0 = cs.length) :
    PostS g n0 cs B (fun cls d _ H => E cls d H) H r { nx := fun _ H' => Q .non H', rt := Q } := by
  cases r with
  | no => exact h
  | nx e M' =>
    intro cs' σ' H' s er m
    exact h (cs'.take cs.length) .non H' (s.take hn) (take_len s) (by rw [← hl]; exact m.take) (.v .non)
  | ex c f e M' =>
    intro cs' dd σ' H' s er m ex
    exact h (cs'.take cs.length) dd H' (s.take hn) (take_len s) (by rw [← hl]; exact m.take) (ex_keep NV_take ex)
  | rt w M' =>
    intro cs' v H' s m rt
    simp only [outR] at h
    cases ho : outW M.length w M' with
    | no => rw [ho] at h; exact h.elim
    | ex => cases w <;> simp only [outW] at ho <;> (try split at ho) <;> (try split at ho) <;> (try split at ho) <;> cases ho
    | ok r M2 =>
      rw [ho] at h
      rcases rt with rs | ⟨d, rfl, rv⟩
      · obtain ⟨e, rs2⟩ := RS.takeN (n := M.length) m rs m.len.symm ho
        subst e
        rw [← hl] at rs2
        exact h (cs'.take cs.length) v H' (s.take hn) (take_len s) (by rw [← hl]; exact m.take) (by rw [← hl]; exact rs2)
      · simp only [outW] at ho
        cases ho
        refine h (cs'.take cs.length) v H' (s.take hn) (take_len s) (by rw [← hl]; exact m.take) (.v ?_)
        rw [← hn2]; exact rv
theorem postF_I {r : Rt} (hn : n0 ≤ cs.length) (hl : cs.length = M.length) (h : PostF g n0 cs B E H (initR (outR M.length r)) Q) :
    PostS g n0 cs B (fun cls d _ H => E cls d H) H r { nx := fun _ H' => Q .non H', rt := Q } := by
  cases r with
  | no => exact h
  | nx e M' =>
    intro cs' σ' H' s er m
    exact h (cs'.take cs.length) .non H' (s.take hn) (take_len s) (by rw [← hl]; exact m.take) (.v .non)
  | ex c f e M' =>
    intro cs' dd σ' H' s er m ex
    exact h (cs'.take cs.length) dd H' (s.take hn) (take_len s) (by rw [← hl]; exact m.take) (ex_keep NV_take ex)
  | rt w M' =>
    intro cs' v H' s m rt
    simp only [outR] at h
    cases ho : outW M.length w M' with
    | no => rw [ho] at h; exact h.elim
    | ex => cases w <;> simp only [outW] at ho <;> (try split at ho) <;> (try split at ho) <;> (try split at ho) <;> cases ho
    | ok r M2 =>
      rw [ho] at h
      cases r with
      | v d =>
        cases d with
        | non =>
          rcases rt with rs | ⟨d, rfl, rv⟩
          · obtain ⟨e, rs2⟩ := RS.takeN (n := M.length) m rs m.len.symm ho
            subst e
            rw [← hl] at rs2
            exact h (cs'.take cs.length) v H' (s.take hn) (take_len s) (by rw [← hl]; exact m.take) (by rw [← hl]; exact rs2)
          · simp only [outW] at ho
            cases ho
            cases rv
            exact h (cs'.take cs.length) _ H' (s.take hn) (take_len s) (by rw [← hl]; exact m.take) (.v .non)
        | _ => exact h.elim
      | _ => exact h.elim
theorem er_start {N : List PySem.Str} {ns : Nat} {ws : List W} {vs : List V} (h : RSs g cs B H ws vs) (hN : N.length = ns) (hw : ws.length ≤ ns) : ER g cs H (NV cs B) (ws.map some ++ List.replicate (ns - ws.length) none) (L2.start N vs) := by
  have hv := h.length
  refine ⟨?_, fun i w hi => ?_⟩
  · unfold L2.start
    rw [List.length_append, List.length_append, List.length_map, List.length_map, List.length_replicate, List.length_replicate, hv, hN]
  · have hr : ∀ {ws : List W} {vs : List V} {i : Nat} {w : W}, RSs g cs B H ws vs → ws[i]? = some w → ∃ v, vs[i]? = some v ∧ RW g cs H (NV cs B) w v := by
      intro ws vs i w h
      induction h generalizing i with
      | nil => intro e; simp at e
      | cons r t ih =>
        intro e
        cases i with
        | zero => simp at e; subst e; exact ⟨_, rfl, r⟩
        | succ i => exact ih (by simpa using e)
    have hlt : i < ws.length := by
      by_cases hlt : i < ws.length
      · exact hlt
      · rw [List.getElem?_append_right (by simpa using hlt), List.getElem?_replicate] at hi
        split at hi <;> cases hi
    rw [List.getElem?_append_left (by simpa using hlt), List.getElem?_map] at hi
    obtain ⟨u, hu, e⟩ := Option.map_eq_some_iff.mp hi
    cases e
    obtain ⟨v, h1, h2⟩ := hr h hu
    refine ⟨v, ?_, h2⟩
    unfold L2.start
    rw [List.getElem?_append_left (by rw [List.length_map, hv]; exact hlt), List.getElem?_map, h1]
    rfl
end
/-- the walk of a def's body, in every context that it may have -/
theorem fn_okF {g : Glo} {P : Program} {w : World} {K : PySem.W.Frag} {mg : PySem.Str → Option Value} {base : Heap} {x qual : PySem.Str} {params : Arguments} {body : List Stmt} {scope : Scope} {dvs : List V} {kws : List (PySem.Str × V)} {f : Addr} {fd : FuncData} {N ps : List PySem.Str} {k : Nat} {d : FD} {cl : Nat → List W → Mem → Rs W}
    (F : FunD K x qual params body scope dvs kws f fd) (S : FnScope N ps scope) (hps : ps.length = d.np) (hN : N.length = d.ns) (hns : d.np ≤ d.ns)
    (jb : ∀ (cdv : Value) (A : Around) (outer : List PySem.Env) (s : Shared) (H : Hp) (E : XK) (n0 : Nat), Room k (A.deeper (envOfC qual scope s.heap.objs.size f cdv)) →
      JSs g (cxOf (L2.CX P w) P w K mg base N qual scope f cdv A outer s H E) (fun cls d _ H => E cls d H) cl n0 d.body body) :
    FnOk P w K mg base (L2.CX P w) (k + 1) f fd ps (spF g d.init d.np (runF cl d)) := by
  refine F.ok S (fun vs H Q E h => h.1.trans hps.symm) fun cdv A outer s H vs Q E hr h => ?_
  obtain ⟨hv, cs, B, M, ws, m, rs, post⟩ := h
  refine ⟨_, pss_sem, ?_⟩
  have hw : ws.length = d.np := by rw [← rs.length, hv]
  unfold runF at post
  rw [if_pos hw] at post
  have he := er_start (N := N) (ns := d.ns) rs hN (by omega)
  cases hi : d.init with
  | true =>
    rw [hi] at post
    simp only [if_true] at post
    have e0 : n0F d M = cs.length - 1 := by unfold n0F; rw [hi, m.len]; rfl
    rw [e0] at post
    exact jb cdv A outer s H E (cs.length - 1) hr _ M _ H cs B _ (by omega) he m (postF_I (by omega) m.len post)
  | false =>
    rw [hi] at post
    simp only [Bool.false_eq_true, if_false] at post
    have e0 : n0F d M = cs.length := by unfold n0F; rw [hi, m.len]; rfl
    rw [e0] at post
    exact jb cdv A outer s H E cs.length hr _ M _ H cs B _ (Nat.le_refl _) he m (postF_S (Nat.le_refl _) m.len post rfl)
end Bf

set_option Elab.async false
set_option linter.all false
set_option maxHeartbeats 1000000
set_option maxRecDepth 10000
/-! The checker: that a form of the small language is the text's. -/
namespace Bf
open PySem PySem.Spec PyProof.Rows L2
def faEq : He.Fa → He.Fa → Bool
  | .glo x, .glo y => decide (x = y)
  | .free x, .free y => decide (x = y)
  | .int x i, .int y j => decide (x = y) && decide (i = j)
  | .str x i, .str y j => decide (x = y) && decide (i = j)
  | .cls x, .cls y => decide (x = y)
  | .noat x f, .noat y h => decide (x = y) && decide (f = h)
  | .meth x f, .meth y h => decide (x = y) && decide (f = h)
  | .mkr x, .mkr y => decide (x = y)
  | .exc x, .exc y => decide (x = y)
  | .exm x y b, .exm x' y' b' => decide (x = x') && (decide (y = y') && decide (b = b'))
  | .keep x, .keep y => decide (x = y)
  | _, _ => false
theorem faEq_ok {a b : He.Fa} (h : faEq a b = true) : a = b := by
  cases a <;> cases b <;> first
    | cases h; done
    | (simp only [faEq, Bool.and_eq_true, decide_eq_true_eq] at h; first | (subst h; rfl) | (obtain ⟨h1, h2⟩ := h; first | (subst h1; subst h2; rfl) | (obtain ⟨h2, h3⟩ := h2; subst h1; subst h2; subst h3; rfl)))
/-- a def of the text: where it stands, its slots, its parameters, its form -/
structure Row where
  id : Nat
  d : He.DefD
  N : List PySem.Str
  ps : List PySem.Str
  f : FD
structure Tb where
  rows : List Row
  fa : List He.Fa
/-- the def with a number -/
def Tb.at_ (T : Tb) (f : Nat) : Option Row := T.rows.find? fun r => r.id == f
def Tb.tb (T : Tb) : Nat → Option FD := fun f => (T.at_ f).map Row.f
theorem Tb.at_mem {T : Tb} {f : Nat} {r : Row} (h : T.at_ f = some r) : r ∈ T.rows := List.mem_of_find?_eq_some h
def Tb.has (T : Tb) (f : He.Fa) : Bool := T.fa.any (faEq f)
theorem Tb.has_mem {T : Tb} {f : He.Fa} (h : T.has f = true) : f ∈ T.fa := by
  obtain ⟨b, hb, e⟩ := List.any_eq_true.mp h
  rw [faEq_ok e]; exact hb
def clsNm : Nat → PySem.Str
  | 0 => "FaceError" | 1 => "BadSteps" | 2 => "BadFacts" | 3 => "BadSizes" | 4 => "NotComparable" | 5 => "BadSize" | 6 => "InvalidLine" | 10 => "Plan" | 11 => "Run" | 12 => "Model" | _ => "?"
def allFd : List Fd := [.osteps, .ofacts, .shown, .bars, .fmarks, .holders, .pused, .snow, .past]
def hasC (T : Tb) (c : Nat) : Bool := (c == 10 || c == 11 || c == 12) && T.has (.cls (clsNm c)) && allFd.all fun f => !okF c f || T.has (.noat (clsNm c) f.nm)
def gOf (K : W.Frag) (T : Tb) : Glo := ⟨K, fun c => He.ga K (clsNm c), hasC T⟩
/-- what the text's names are, statically -/
structure SX where
  N : List PySem.Str
  sc : Scope
  bs : Option Scope
def SX.vis (c : SX) (x : PySem.Str) : Bool := match c.sc.names.lookup x with | some .local => true | some .cell => true | some .free => true | _ => false
def SX.loc (c : SX) (x : PySem.Str) : Bool := match c.sc.names.lookup x with | some .local => true | some .cell => true | _ => false
def SX.isL (c : SX) (x : PySem.Str) : Bool := match c.sc.names.lookup x with | some .local => true | _ => false
def SX.gl (c : SX) (x : PySem.Str) : Bool := match c.sc.names.lookup x with | some .globalImplicit => true | _ => false
def SX.fnB (c : SX) (x : PySem.Str) : Bool := match c.bs with
  | none => true
  | some s => (match s.names.lookup x with | some .cell => true | _ => false)
def noD (x : PySem.Str) : Bool := !(x == ("__debug__" : PySem.Str)) && !(x == ("__classdict__" : PySem.Str))
def SX.stor (c : SX) (i : Nat) (x : PySem.Str) : Bool := decide (c.N[i]? = some x) && (c.loc x && (c.fnB x || c.isL x))
def SX.blk (c : SX) (scope : Scope) : SX := ⟨c.N, relS scope c.sc, some scope⟩
def SX.free (T : Tb) (c : SX) (x : PySem.Str) : Bool := c.gl x && T.has (.free x)
def rowAt (T : Tb) (f : Nat) (p : PySem.Str × Option PySem.Str) (init : Bool) : Bool := match T.at_ f with
  | some r => decide (r.d.at_ = p) && ((r.f.init == init) && (r.d.kwd.isEmpty && r.d.dfl.isEmpty))
  | none => false
def chkNm (c : SX) : List Nat → List Expr → Bool
  | [], [] => true
  | i :: is, .Name x _ :: xs => c.stor i x && chkNm c is xs
  | _, _ => false
def chkTg (c : SX) : Tg → Expr → Bool
  | .v i, .Name x _ => c.stor i x
  | .t is, .Tuple xs _ _ => chkNm c is xs
  | .n i is, .Tuple [.Name x _, .Tuple xs _ _] _ _ => c.stor i x && chkNm c is xs
  | _, _ => false
def zipN : List Nat → List Expr → List (PySem.Str × Nat)
  | i :: is, .Name x _ :: xs => (x, i) :: zipN is xs
  | _, _ => []
def ownOf : Tg → Expr → List (PySem.Str × Nat)
  | .v i, .Name x _ => [(x, i)]
  | .t is, .Tuple xs _ _ => zipN is xs
  | .n i is, .Tuple [.Name x _, .Tuple xs _ _] _ _ => (x, i) :: zipN is xs
  | _, _ => []
def plainT : Expr → Bool
  | .UnaryOp .Not _ _ => false
  | .BoolOp .. => false
  | .IfExp .. => false
  | .Compare .. => false
  | _ => true
def isBO : Expr → Bool
  | .BoolOp .. => true
  | _ => false
def isTup : Expr → Bool
  | .Tuple .. => true
  | _ => false
def chkP (c : SX) : E → Expr → Bool
  | .var i, .Name nm _ => decide (c.N[i]? = some nm) && (c.vis nm && noD nm)
  | .fld (.var i) f, .Attribute (.Name nm _) m _ => decide (m = f.nm) && (decide (c.N[i]? = some nm) && (c.vis nm && noD nm))
  | _, _ => false
/-- a list method's call: its parts -/
def callA : Expr → Option (Expr × PySem.Str × Pos × List Expr × Pos)
  | .Call (.Attribute y m apos) xs [] cpos => some (y, m, apos, xs, cpos)
  | _ => none
def callN : Expr → Option (PySem.Str × List Expr)
  | .Call (.Name nm _) xs [] _ => some (nm, xs)
  | _ => none
def okA (y : Expr) (apos cpos : Pos) : Bool := notSup y && (apos.endLine == cpos.line)
section
variable (T : Tb)
mutual
def chkE : E → Bool → SX → Expr → Bool
  | .var i, t, c, x => (!t || plainT x) && (match x with
    | .Name nm _ => decide (c.N[i]? = some nm) && (c.vis nm && noD nm)
    | _ => false)
  | .lit d, t, c, x => !t && (match x with
    | .Constant k _ _ => litM d k
    | _ => false)
  | .glo nm d, t, c, x => !t && (match x with
    | .Name nm' _ => decide (nm' = nm) && (c.gl nm && (noD nm && (match d with
      | .int i => T.has (.int nm i)
      | .str s => T.has (.str nm s)
      | _ => false)))
    | _ => false)
  | .b2 o a b, t, c, x => (match x with
    | .BinOp y op z _ => !t && (decide (o.nm = .b op) && (chkE a false c y && chkE b false c z))
    | .Compare y [op] [z] _ => decide (o.nm = .c op) && (!behindInMarks op z && (chkE a false c y && chkE b false c z))
    | _ => false)
  | .catN a b, t, c, x => (match x with
    | .BinOp y .Add z _ => !t && (chkE a false c y && chkE b false c z)
    | _ => false)
  | .chain o o' a b cc, t, c, x => (match x with
    | .Compare y [op, op'] [z, w] _ => decide (o.nm = .c op) && (decide (o'.nm = .c op') && (!lastMarks [op, op'] [z, w] && (chkE a false c y && (chkE b false c z && chkE cc false c w))))
    | _ => false)
  | .and a b, t, c, x => (match x with
    | .BoolOp .And [y, z] _ => chkE a t c y && chkE b t c z
    | .BoolOp .And (y :: z :: w :: ws) pos => chkE a t c y && chkE b t c (.BoolOp .And (z :: w :: ws) pos)
    | _ => false)
  | .or a b, t, c, x => (match x with
    | .BoolOp .Or [y, z] _ => chkE a t c y && chkE b t c z
    | .BoolOp .Or (y :: z :: w :: ws) pos => chkE a t c y && chkE b t c (.BoolOp .Or (z :: w :: ws) pos)
    | _ => false)
  | .not a, t, c, x => (match x with
    | .UnaryOp .Not y _ => chkE a t c y
    | _ => false)
  | .neg a, t, c, x => !t && (match x with
    | .UnaryOp .USub y _ => chkE a false c y
    | _ => false)
  | .ite cc a b, t, c, x => (match x with
    | .IfExp z y w _ => chkE cc true c z && (chkE a t c y && chkE b t c w)
    | _ => false)
  | .tup es, t, c, x => !t && (match x with
    | .Tuple xs _ _ => chkEs es c xs
    | _ => false)
  | .lst es, t, c, x => !t && (match x with
    | .List xs _ => chkEs es c xs
    | _ => false)
  | .newK, t, _, x => !t && (match x with
    | .Dict [] [] _ => true
    | _ => false)
  | .newT, t, _, x => !t && (match x with
    | .Dict [] [] _ => true
    | _ => false)
  | .idx a i, t, c, x => (!t || plainT x) && (match x with
    | .Subscript y z _ => plainIxB z && (chkE a false c y && chkE i false c z)
    | _ => false)
  | .sl a lo hi, t, c, x => !t && (match x with
    | .Subscript y (.Slice l u none _) _ => chkE a false c y && (chkOE lo c l && chkOE hi c u)
    | _ => false)
  | .rev a, t, c, x => !t && (match x with
    | .Subscript y (.Slice none none (some (.UnaryOp .USub (.Constant (.int 1) _ _) _)) _) _ => chkE a false c y
    | _ => false)
  | .fld a f, t, c, x => (!t || plainT x) && (match x with
    | .Attribute y m _ => decide (m = f.nm) && (notSup y && chkE a false c y)
    | _ => false)
  | .bi b es, t, c, x => (!t || plainT x) && (match b, es with
    | .isi ty, .cons a .nil => (match x with
      | .Call (.Name nm _) [y, .Name tn _] [] _ => decide (nm = "isinstance") && (decide (tn = ty.x) && (c.free T nm && (c.free T tn && (notStar y && chkE a false c y))))
      | _ => false)
    | .sortSet, .cons a .nil => (match x with
      | .Call (.Name nm _) [.Call (.Name n2 _) [y] [] _] [] _ => decide (nm = "sorted") && (decide (n2 = "set") && (c.free T nm && (c.free T n2 && (notStar y && chkE a false c y))))
      | _ => false)
    | .rng, .cons a .nil => (match x with
      | .Call (.Name nm _) [.Call (.Name n2 _) [y] [] _] [] _ => decide (nm = "list") && (decide (n2 = "range") && (c.free T nm && (c.free T n2 && (notStar y && chkE a false c y))))
      | _ => false)
    | .sortSum, .cons a .nil => (match x with
      | .Call (.Name nm _) [y] [⟨some kn, .Name n2 _, _⟩] _ => decide (nm = "sorted") && (decide (kn = "key") && (decide (n2 = "sum") && (c.free T nm && (c.free T n2 && (notStar y && chkE a false c y)))))
      | _ => false)
    | b, es => (match callN x with
      | some (nm, y :: ys) => decide (nm = b.x) && (plainBI b && (c.free T nm && ((y :: ys).all notStar && chkEs es c (y :: ys))))
      | _ => false))
  | .get2 o k d, t, c, x => !t && (match callA x with
    | some (y, m, apos, [z, w], cpos) => decide (m = "get") && (okA y apos cpos && (notStar z && (notStar w && (chkE o false c y && (chkE k false c z && chkE d false c w)))))
    | _ => false)
  | .join o a, t, c, x => !t && (match callA x with
    | some (y, m, apos, [z], cpos) => decide (m = "join") && (okA y apos cpos && (notStar z && (chkE o false c y && chkE a false c z)))
    | _ => false)
  | .split o a, t, c, x => !t && (match callA x with
    | some (y, m, apos, [z], cpos) => decide (m = "split") && (okA y apos cpos && (notStar z && (chkE o false c y && chkE a false c z)))
    | _ => false)
  | .pop o, t, c, x => !t && (match callA x with
    | some (y, m, apos, [], cpos) => decide (m = "pop") && (okA y apos cpos && chkE o false c y)
    | _ => false)
  | .popAt o i, t, c, x => !t && (match callA x with
    | some (y, m, apos, [z], cpos) => decide (m = "pop") && (okA y apos cpos && (notStar z && (chkE o false c y && chkE i false c z)))
    | _ => false)
  | .call f es, t, c, x => (!t || plainT x) && (match callN x with
    | some (nm, xs) => rowAt T f (nm, none) false && (c.gl nm && (noD nm && (T.has (.glo nm) && (T.has (.keep nm) && (xs.all notStar && chkEs es c xs)))))
    | _ => false)
  | .mth cc f o es, t, c, x => (!t || plainT x) && (match callA x with
    | some (y, m, apos, xs, cpos) => rowAt T f (clsNm cc, some m) false && (T.has (.cls (clsNm cc)) && (T.has (.meth (clsNm cc) m) && (noFd m && (okA y apos cpos && (decide (xs.length < 30) && (xs.all notStar && (chkE o false c y && chkEs es c xs)))))))
    | _ => false)
  | .make cc f es, t, c, x => !t && (match callN x with
    | some (nm, y :: ys) => decide (nm = clsNm cc) && (rowAt T f (nm, some "__init__") true && (hasC T cc && (c.gl nm && (noD nm && (T.has (.glo nm) && (T.has (.mkr nm) && ((y :: ys).all notStar && chkEs es c (y :: ys))))))))
    | _ => false)
  | .dead, _, _, _ => true
  | .isE _, _, _, _ => false
  | .dig _, _, _, _ => false
  | .isC _ _, _, _, _ => false
  | .peq _ _, _, _, _ => false
  | .prop _ _, _, _, _ => false
  | .callD _ _ _, _, _, _ => false
  | .callK _ _ _, _, _, _ => false
  | .lenO cc f a, t, c, x => (!t || plainT x) && (match callN x with
    | some (nm, [y]) => decide (nm = "len") && (rowAt T f (clsNm cc, some "__len__") false && (T.has (.meth (clsNm cc) "__len__") && (c.free T nm && (notStar y && chkE a false c y))))
    | _ => false)
  | .lc elt tg it cond, t, c, x => !t && (match x with
    | .ListComp y [⟨tt, iter, ifs, aa⟩] scope _ => decide (aa = 0) && (blkC c.N c.sc scope (ownOf tg tt) && (notSet iter && (decide ((ownOf tg tt).map (·.2) = tg.own) && (chkTg (c.blk scope) tg tt && (chkE elt false (c.blk scope) y && (chkC cond (c.blk scope) ifs && (match it with
      | .keys a => chkP c a iter
      | .items a => (match callA iter with
        | some (z, m, apos, [], cpos) => decide (m = "items") && (okA z apos cpos && (isTup tt && chkP c a z))
        | _ => false)
      | it => chkIt it c tt iter)))))))
    | _ => false)
  | .lc2 elt tg it tg2 it2, t, c, x => !t && (match x with
    | .ListComp y [⟨tt, iter, [], aa⟩, ⟨tt2, iter2, [], aa2⟩] scope _ => decide (aa = 0) && (decide (aa2 = 0) && (blkC c.N c.sc scope (ownOf tg tt ++ ownOf tg2 tt2) && (notSet iter && (notSet iter2 && (decide ((ownOf tg tt ++ ownOf tg2 tt2).map (·.2) = tg.own ++ tg2.own) &&
        (chkTg (c.blk scope) tg tt && (chkTg (c.blk scope) tg2 tt2 && (chkE elt false (c.blk scope) y && (chkIt it c tt iter && chkIt it2 (c.blk scope) tt2 iter2)))))))))
    | _ => false)
def chkEs : Es → SX → List Expr → Bool
  | .nil, _, xs => xs.isEmpty
  | .cons e es, c, xs => (match xs with
    | x :: xs => notStar x && (chkE e false c x && chkEs es c xs)
    | [] => false)
  | .star e es, c, xs => (match xs with
    | .Starred x _ :: xs => chkE e false c x && chkEs es c xs
    | _ => false)
def chkOE : OE → SX → Option Expr → Bool
  | .no, _, x => x.isNone
  | .so e, c, x => (match x with
    | some x => chkE e false c x
    | none => false)
def chkC : OE → SX → List Expr → Bool
  | .no, _, xs => xs.isEmpty
  | .so e, c, xs => (match xs with
    | [x] => chkE e true c x
    | _ => false)
def chkIt : It → SX → Expr → Expr → Bool
  | .e a, c, _, x => chkE a false c x
  | .enum a, c, t, x => isTup t && (match callN x with
    | some (nm, [y]) => decide (nm = "enumerate") && (c.free T nm && (notStar y && chkE a false c y))
    | _ => false)
  | .r1 a, c, _, x => (match callN x with
    | some (nm, [y]) => decide (nm = "range") && (c.free T nm && (notStar y && chkE a false c y))
    | _ => false)
  | .r2 a b, c, _, x => (match callN x with
    | some (nm, [y, z]) => decide (nm = "range") && (c.free T nm && (notStar y && (notStar z && (chkE a false c y && chkE b false c z))))
    | _ => false)
  | _, _, _, _ => false
end
end
end Bf

set_option Elab.async false
set_option linter.all false
set_option maxHeartbeats 2000000
set_option maxRecDepth 10000
/-! The checker is right: expressions. -/
namespace Bf
open PySem PySem.Spec PyProof.Rows L2
/-- what the top has left, and what the defs promise at k -/
structure Bs (T : Tb) (P : Program) (w : World) (K : PySem.W.Frag) (mg : PySem.Str → Option Value) (base : Heap) (k : Nat) (cl : Nat → List W → Mem → Rs W) : Prop where
  glo : ∀ x, He.Fa.glo x ∈ T.fa → mg x = some (.ref (He.ga K x))
  keep : ∀ x, He.Fa.keep x ∈ T.fa → PySem.W.keepIn K (.ref (He.ga K x)) = true
  free : ∀ x, He.Fa.free x ∈ T.fa → mg x = none
  int_ : ∀ x i, He.Fa.int x i ∈ T.fa → ∃ t, mg x = some (.int i t)
  str_ : ∀ x z, He.Fa.str x z ∈ T.fa → ∃ t, mg x = some (.str z t)
  cls : ∀ x, He.Fa.cls x ∈ T.fa → Cls K (He.ga K x)
  noat : ∀ x f, He.Fa.noat x f ∈ T.fa → NoAttr K (He.ga K x) f
  meth : ∀ x m, He.Fa.meth x m ∈ T.fa → Meth K (He.ga K x) m (He.ma K (He.ga K x) m)
  mkr : ∀ x, He.Fa.mkr x ∈ T.fa → Mk K (He.ga K x) (He.ma K (He.ga K x) "__init__")
  exc : ∀ x, He.Fa.exc x ∈ T.fa → PySem.W.excIn K (He.ga K x) He.veBase "ValueError.__new__" = true ∧ PySem.W.keepIn K (.ref (He.ga K x)) = true ∧ PySem.W.subIn K (.ref (He.ga K x)) (.type "BaseException") = some true ∧ PySem.W.typeIn K (.ref (He.ga K x)) = some (.type "type")
  exm : ∀ x y b, He.Fa.exm x y b ∈ T.fa → PySem.W.exmOne K (.ref (He.ga K x)) (.ref (He.ga K y)) = some b
  fn : ∀ f r, T.at_ f = some r → r.d.kwd.isEmpty = true → r.d.dfl.isEmpty = true → ∃ fd, FnOk P w K mg base (L2.CX P w) k (He.fAd K r.d.at_) fd r.ps (spF (gOf K T) r.f.init r.f.np (cl f)) ∧ Binds K fd r.ps []
  len : ∀ f r ws M, T.at_ f = some r → cl f ws M ≠ .no → ws.length = r.f.np
/-- a context that c describes -/
structure Ok (T : Tb) (k : Nat) (cl : Nat → List W → Mem → Rs W) (c : SX) (X : Cx) : Prop where
  N : X.N = c.N
  sc : X.env.scope = c.sc
  fn : ∀ x, c.fnB x = true → X.fn x = true
  nd : X.N.Nodup
  calm : X.calm = true
  room : Room (k + 1) X.A
  bs : Bs T X.prog X.w X.K X.mg X.base k cl
section
variable {T : Tb} {k : Nat} {cl : Nat → List W → Mem → Rs W} {c : SX} {X : Cx} {Wx : WX}
theorem Ok.gd (o : Ok T k cl c X) : Gd (gOf X.K T) (k + 1) X := ⟨o.nd, o.calm, o.room, rfl⟩
theorem Ok.gd0 (o : Ok T k cl c X) : Gd (gOf X.K T) k X := ⟨o.nd, o.calm, o.room.mono (Nat.le_succ _), rfl⟩
theorem Ok.blk (o : Ok T k cl c X) (scope : Scope) (s : Shared) (H : Hp) (C : Addr) (cl' : List (PySem.Str × Addr)) (fp : List Addr) : Ok T k cl (c.blk scope) (Bk X scope s H C cl' fp) where
  N := o.N
  sc := by
    show (compEnvC scope cl' C X.env).scope = relS scope c.sc
    rw [← o.sc]; rfl
  fn := fun x h => by
    show (scope.names.lookup x == some .cell) = true
    simp only [SX.fnB, SX.blk] at h
    split at h
    · rename_i e; rw [e]; rfl
    · cases h
  nd := o.nd
  calm := o.calm
  room := o.room
  bs := o.bs
theorem takes_blk {scope : Scope} {s : Shared} {H : Hp} {C : Addr} {cl' : List (PySem.Str × Addr)} {fp : List Addr} : Takes (Bk X scope s H C cl' fp) noX := takes_none5
theorem hasC_cls {cc : Nat} (o : Ok T k cl c X) (h : hasC T cc = true) : Cls X.K (He.ga X.K (clsNm cc)) := by
  unfold hasC at h
  simp only [Bool.and_eq_true] at h
  exact o.bs.cls _ (Tb.has_mem h.1.2)
theorem Ok.gf (o : Ok T k cl c X) : GF (gOf X.K T) X := ⟨fun cc h => hasC_cls o h, fun cc f h hf => by
  have h : hasC T cc = true := h
  unfold hasC at h
  simp only [Bool.and_eq_true] at h
  have := List.all_eq_true.mp h.2 f (by cases f <;> decide)
  rw [hf] at this
  exact o.bs.noat _ _ (Tb.has_mem this)⟩
theorem Ok.vis (o : Ok T k cl c X) {x : PySem.Str} (h : c.vis x = true) : Vis X.env.scope x := by
  rw [o.sc]
  unfold SX.vis at h
  split at h
  · rename_i e; exact .inl e
  · rename_i e; exact .inr (.inl e)
  · rename_i e; exact .inr (.inr e)
  · cases h
theorem Ok.loc (o : Ok T k cl c X) {x : PySem.Str} (h : c.loc x = true) : Loc X.env.scope x := by
  rw [o.sc]
  unfold SX.loc at h
  split at h
  · rename_i e; exact .inl e
  · rename_i e; exact .inr e
  · cases h
theorem Ok.isL (o : Ok T k cl c X) {x : PySem.Str} (h : c.isL x = true) : X.env.scope.names.lookup x = some .local := by
  rw [o.sc]
  unfold SX.isL at h
  split at h
  · rename_i e; exact e
  · cases h
theorem Ok.gl (o : Ok T k cl c X) {x : PySem.Str} (h : c.gl x = true) : Gl X x := by
  show X.env.scope.names.lookup x = some .globalImplicit
  rw [o.sc]
  unfold SX.gl at h
  split at h
  · rename_i e; exact e
  · cases h
theorem Ok.free (o : Ok T k cl c X) {x : PySem.Str} (h : c.free T x = true) : Free X x := by
  unfold SX.free at h
  rw [Bool.and_eq_true] at h
  exact ⟨o.gl h.1, o.bs.free _ (Tb.has_mem h.2)⟩
theorem Ok.stor (o : Ok T k cl c X) {i : Nat} {x : PySem.Str} (h : c.stor i x = true) : Stor X i x := by
  unfold SX.stor at h
  simp only [Bool.and_eq_true, Bool.or_eq_true, decide_eq_true_eq] at h
  exact ⟨by rw [o.N]; exact h.1, o.loc h.2.1, h.2.2.imp (o.fn x) o.isL⟩
theorem noD_1 {x : PySem.Str} (h : noD x = true) : (x == ("__debug__" : PySem.Str)) = false ∧ (x == ("__classdict__" : PySem.Str)) = false := by
  unfold noD at h
  rw [Bool.and_eq_true] at h
  exact ⟨by cases e : (x == ("__debug__" : PySem.Str)) <;> simp_all, by cases e : (x == ("__classdict__" : PySem.Str)) <;> simp_all⟩
theorem Ok.ff (o : Ok T k cl c X) {f : Nat} {p : PySem.Str × Option PySem.Str} {init : Bool} (h : rowAt T f p init = true) : ∃ np fd ps, FF (gOf X.K T) X k cl f (He.fAd X.K p) init np fd ps := by
  unfold rowAt at h
  split at h
  · rename_i r hr
    simp only [Bool.and_eq_true, decide_eq_true_eq, beq_iff_eq] at h
    obtain ⟨h1, h2, h3, h4⟩ := h
    obtain ⟨fd, h5, h6⟩ := o.bs.fn f r hr h3 h4
    subst h1; subst h2
    exact ⟨r.f.np, fd, r.ps, h5, h6, fun ws M => o.bs.len f r ws M hr⟩
  · cases h
/-! ### targets -/
theorem chkNm_ok (o : Ok T k cl c X) : ∀ {is : List Nat} {xs : List Expr}, chkNm c is xs = true → JGs (gOf X.K T) X is xs ∧ xs.all isNm = true ∧ xs.length = is.length
  | [], [], _ => ⟨jgs_nil, rfl, rfl⟩
  | [], _ :: _, h => by cases h
  | i :: is, [], h => by cases h
  | i :: is, x :: xs, h => by
    cases x with
    | Name n p =>
      simp only [chkNm, Bool.and_eq_true] at h
      obtain ⟨h1, h2, h3⟩ := chkNm_ok o h.2
      exact ⟨jgs_cons o.gd0 (o.stor h.1) h1, by rw [List.all_cons, h2]; rfl, congrArg (· + 1) h3⟩
    | _ => cases h
theorem chkTg_ok (o : Ok T k cl c X) {tg : Tg} {x : Expr} (h : chkTg c tg x = true) : JG (gOf X.K T) X tg x := by
  unfold chkTg at h
  split at h
  · exact jg_v o.gd0 (o.stor h)
  · obtain ⟨h1, h2, h3⟩ := chkNm_ok o h
    exact jg_t o.gd0 h2 h3 h1
  · rw [Bool.and_eq_true] at h
    obtain ⟨h1, h2, h3⟩ := chkNm_ok o h.2
    exact jg_n o.gd0 (o.stor h.1) h2 h3 h1
  · cases h
theorem chkP_ok (o : Ok T k cl c X) {a : E} {x : Expr} (h : chkP c a x = true) : JP (gOf X.K T) X cl a x := by
  unfold chkP at h
  split at h
  · simp only [Bool.and_eq_true, decide_eq_true_eq] at h
    exact jp_var (by rw [o.N]; exact h.1) (o.vis h.2.1) (noD_1 h.2.2).1 (noD_1 h.2.2).2
  · simp only [Bool.and_eq_true, decide_eq_true_eq] at h
    obtain ⟨h0, h⟩ := h
    subst h0
    exact jp_fld o.gf rfl (jp_var (by rw [o.N]; exact h.1) (o.vis h.2.1) (noD_1 h.2.2).1 (noD_1 h.2.2).2)
  · cases h
/-! ### tests -/
theorem plainT_ok {x : Expr} (h : plainT x = true) : ∀ env whole, isTrue x env whole = (do let v ← whole; standAt x.pos; holding [v] (truthy v)) := fun env whole => by
  cases x with
  | UnaryOp o y p => cases o <;> first | rfl | cases h
  | BoolOp => cases h
  | IfExp => cases h
  | Compare => cases h
  | _ => rfl
def Res (g : Glo) (X : Cx) (Wx : WX) (cl : Nat → List W → Mem → Rs W) (e : E) (x : Expr) : Bool → Prop
  | false => JE g X Wx cl e x
  | true => JT g X Wx cl e x ∧ (isBO x = true → JW g X Wx cl e x)
theorem Res.of {g : Glo} {e : E} {x : Expr} {t : Bool} (h : JE g X Wx cl e x) (hp : (!t || plainT x) = true) : Res g X Wx cl e x t := by
  cases t with
  | false => exact h
  | true =>
    have hp : plainT x = true := hp
    refine ⟨jt_val h fun whole => plainT_ok hp _ _, fun z => ?_⟩
    cases x <;> first | (cases hp; done) | (cases z; done)
theorem Res.of0 {g : Glo} {e : E} {x : Expr} {t : Bool} (h : JE g X Wx cl e x) (hp : (!t) = true) : Res g X Wx cl e x t := by
  cases t with
  | false => exact h
  | true => cases hp
theorem jt_no {g : Glo} {e : E} {x : Expr} (h : JT g X Wx cl e x) (hb : isBO x = false) : Res g X Wx cl e x true := ⟨h, fun z => by rw [hb] at z; cases z⟩
theorem je_dead {g : Glo} {x : Expr} {t : Bool} : Res g X Wx cl .dead x t := by
  cases t with
  | false => exact fun env M σ H cs B L Q hl he m post => by simp only [evE] at post; exact post.elim
  | true => exact ⟨fun env M σ H cs B L Q hl he m post => by simp only [evE] at post; exact post.elim, fun _ => fun env M σ H cs B L Q hl he m post => by simp only [evE] at post; exact post.elim⟩
theorem jc_no {g : Glo} : JC g X noX cl .no [] := fun env M σ H cs B L Q hl he m post => SemTs.of pts_nil (post true H Ext.refl m rfl)
theorem jc_so {g : Glo} {e : E} {x : Expr} (h : JT g X noX cl e x) : JC g X noX cl (.so e) [x] := fun env M σ H cs B L Q hl he m post => SemTs.of (pts_one pt_sem) (h env M σ H cs B L Q hl he m post)
end
end Bf

set_option Elab.async false
set_option linter.all false
set_option maxHeartbeats 4000000
set_option maxRecDepth 10000
/-! The checker is right: expressions, II. -/
namespace Bf
open PySem PySem.Spec PyProof.Rows L2
section
variable {T : Tb} {k : Nat} {cl : Nat → List W → Mem → Rs W} {c : SX} {X : Cx} {Wx : WX}
theorem callA_eq {x y : Expr} {m : PySem.Str} {apos cpos : Pos} {xs : List Expr} (h : callA x = some (y, m, apos, xs, cpos)) : x = .Call (.Attribute y m apos) xs [] cpos := by
  unfold callA at h
  split at h
  · cases h; rfl
  · cases h
theorem callN_eq {x : Expr} {nm : PySem.Str} {xs : List Expr} (h : callN x = some (nm, xs)) : ∃ p q, x = .Call (.Name nm p) xs [] q := by
  unfold callN at h
  split at h
  · cases h; exact ⟨_, _, rfl⟩
  · cases h
theorem okA_1 {y : Expr} {apos cpos : Pos} (h : okA y apos cpos = true) : notSup y = true ∧ (apos.endLine == cpos.line) = true := by
  unfold okA at h
  rw [Bool.and_eq_true] at h
  exact h
def itB (T : Tb) (c : SX) (it : It) (tt iter : Expr) : Bool := match it with
  | .keys a => chkP c a iter
  | .items a => (match callA iter with
    | some (z, m, apos, [], cpos) => decide (m = "items") && (okA z apos cpos && (isTup tt && chkP c a z))
    | _ => false)
  | it => chkIt T it c tt iter
theorem lc_inv {elt : E} {tg : Tg} {it : It} {cond : OE} {t : Bool} {x : Expr} (h : chkE T (.lc elt tg it cond) t c x = true) : (!t) = true ∧ ∃ y tt iter ifs scope pos, x = .ListComp y [⟨tt, iter, ifs, 0⟩] scope pos ∧ blkC c.N c.sc scope (ownOf tg tt) = true ∧ notSet iter = true ∧ (ownOf tg tt).map (·.2) = tg.own ∧ chkTg (c.blk scope) tg tt = true ∧
    chkE T elt false (c.blk scope) y = true ∧ chkC T cond (c.blk scope) ifs = true ∧ itB T c it tt iter = true := by
  unfold chkE at h
  rw [Bool.and_eq_true] at h
  obtain ⟨ht, h⟩ := h
  refine ⟨ht, ?_⟩
  split at h
  · rw [Bool.and_eq_true, Bool.and_eq_true, Bool.and_eq_true, Bool.and_eq_true, Bool.and_eq_true, Bool.and_eq_true, Bool.and_eq_true, decide_eq_true_eq, decide_eq_true_eq] at h
    obtain ⟨h0, h1, h2, h3, h4, h5, h6, h7⟩ := h
    subst h0
    exact ⟨_, _, _, _, _, _, rfl, h1, h2, h3, h4, h5, h6, by cases it <;> exact h7⟩
  · cases h
theorem lc2_inv {elt : E} {tg tg2 : Tg} {it it2 : It} {t : Bool} {x : Expr} (h : chkE T (.lc2 elt tg it tg2 it2) t c x = true) : (!t) = true ∧ ∃ y tt iter tt2 iter2 scope pos, x = .ListComp y [⟨tt, iter, [], 0⟩, ⟨tt2, iter2, [], 0⟩] scope pos ∧ blkC c.N c.sc scope (ownOf tg tt ++ ownOf tg2 tt2) = true ∧ notSet iter = true ∧ notSet iter2 = true ∧
    (ownOf tg tt ++ ownOf tg2 tt2).map (·.2) = tg.own ++ tg2.own ∧ chkTg (c.blk scope) tg tt = true ∧ chkTg (c.blk scope) tg2 tt2 = true ∧ chkE T elt false (c.blk scope) y = true ∧ chkIt T it c tt iter = true ∧ chkIt T it2 (c.blk scope) tt2 iter2 = true := by
  unfold chkE at h
  rw [Bool.and_eq_true] at h
  obtain ⟨ht, h⟩ := h
  refine ⟨ht, ?_⟩
  split at h
  · simp only [Bool.and_eq_true, decide_eq_true_eq] at h
    obtain ⟨h0, h00, h1, h2, h3, h4, h5, h6, h7, h8, h9⟩ := h
    subst h0; subst h00
    exact ⟨_, _, _, _, _, _, _, rfl, h1, h2, h3, h4, h5, h6, h7, h8, h9⟩
  · cases h
theorem lc_core (o : Ok T k cl c X) {elt : E} {tg : Tg} {it : It} {cond : OE} {y tt iter : Expr} {ifs : List Expr} {scope : Scope} (h1 : blkC c.N c.sc scope (ownOf tg tt) = true) (h2 : notSet iter = true) (h3 : (ownOf tg tt).map (·.2) = tg.own) (h4 : chkTg (c.blk scope) tg tt = true)
    (je : ∀ Y, Ok T k cl (c.blk scope) Y → Takes Y noX → JE (gOf Y.K T) Y noX cl elt y) (jc : ∀ Y, Ok T k cl (c.blk scope) Y → Takes Y noX → JC (gOf Y.K T) Y noX cl cond ifs)
    (h5 : itB T c it tt iter = true) (jit : chkIt T it c tt iter = true → JI (gOf X.K T) X Wx cl it tt iter) :
    BlkOk X.N X.env.scope scope (ownOf tg tt) ∧ notSet iter = true ∧ JL (gOf X.K T) X Wx cl (.lc elt tg it cond) scope ((ownOf tg tt).map (·.2)) y tt iter ifs := by
  have ok : BlkOk X.N X.env.scope scope (ownOf tg tt) := by rw [o.N, o.sc]; exact blkOk_by h1
  have jg : allB X scope fun Y => JG (gOf X.K T) Y tg tt := fun s H C cl' fp => chkTg_ok (o.blk scope s H C cl' fp) h4
  have jc' : allB X scope fun Y => JC (gOf X.K T) Y noX cl cond ifs := fun s H C cl' fp => jc _ (o.blk scope s H C cl' fp) takes_blk
  have je' : allB X scope fun Y => JE (gOf X.K T) Y noX cl elt y := fun s H C cl' fp => je _ (o.blk scope s H C cl' fp) takes_blk
  have ho1 : ∀ i, i ∈ (ownOf tg tt).map (·.2) → i ∈ tg.own := fun i hi => by rw [← h3]; exact hi
  have ho2 : ∀ i, i ∈ tg.own → i ∈ (ownOf tg tt).map (·.2) := fun i hi => by rw [h3]; exact hi
  refine ⟨ok, h2, ?_⟩
  have gen : chkIt T it c tt iter = true → JL (gOf X.K T) X Wx cl (.lc elt tg it cond) scope ((ownOf tg tt).map (·.2)) y tt iter ifs := fun h => jl_lc o.gd ok h2 (jit h) jg jc' je' ho1 ho2
  cases it with
  | keys a => exact jl_lcKeys (chkP_ok o h5) jg jc' je' ho1 ho2
  | items a =>
    simp only [itB] at h5
    split at h5
    · rename_i z m apos cpos e
      simp only [Bool.and_eq_true, decide_eq_true_eq] at h5
      obtain ⟨hm, h6, h7, h8⟩ := h5
      obtain ⟨h9, h10⟩ := okA_1 h6
      obtain rfl := callA_eq e
      subst hm
      cases tt with
      | Tuple elts kk tpos => exact jl_lcItems h9 h10 (chkP_ok o h8) jg jc' je' ho1 ho2
      | _ => cases h7
    · cases h5
  | _ => exact gen h5
theorem lc2_core (o : Ok T k cl c X) {elt : E} {tg tg2 : Tg} {it it2 : It} {y tt iter tt2 iter2 : Expr} {scope : Scope} (h1 : blkC c.N c.sc scope (ownOf tg tt ++ ownOf tg2 tt2) = true) (h3 : (ownOf tg tt ++ ownOf tg2 tt2).map (·.2) = tg.own ++ tg2.own) (h4 : chkTg (c.blk scope) tg tt = true) (h5 : chkTg (c.blk scope) tg2 tt2 = true)
    (je : ∀ Y, Ok T k cl (c.blk scope) Y → Takes Y noX → JE (gOf Y.K T) Y noX cl elt y) (ji : JI (gOf X.K T) X Wx cl it tt iter) (ji2 : ∀ Y, Ok T k cl (c.blk scope) Y → Takes Y noX → JI (gOf Y.K T) Y noX cl it2 tt2 iter2) :
    BlkOk X.N X.env.scope scope (ownOf tg tt ++ ownOf tg2 tt2) ∧ (∀ i, i ∈ tg2.own → i ∈ (ownOf tg tt ++ ownOf tg2 tt2).map (·.2)) ∧ JL2 (gOf X.K T) X Wx cl (.lc2 elt tg it tg2 it2) scope ((ownOf tg tt ++ ownOf tg2 tt2).map (·.2)) tg2.own y tt iter tt2 iter2 := by
  have ok : BlkOk X.N X.env.scope scope (ownOf tg tt ++ ownOf tg2 tt2) := by rw [o.N, o.sc]; exact blkOk_by h1
  refine ⟨ok, fun i hi => by rw [h3]; exact List.mem_append_right _ hi, ?_⟩
  exact jl_lc2 ji (fun s H C cl' fp => chkTg_ok (o.blk scope s H C cl' fp) h4) (fun s H C cl' fp => ji2 _ (o.blk scope s H C cl' fp) takes_blk) (fun s H C cl' fp => chkTg_ok (o.blk scope s H C cl' fp) h5)
    (fun s H C cl' fp => je _ (o.blk scope s H C cl' fp) takes_blk) (fun i hi => by rw [← h3]; exact hi) (fun i hi => by rw [h3]; exact List.mem_append_left _ hi) (fun i hi => by rw [h3]; exact List.mem_append_right _ hi)
theorem glo_d (o : Ok T k cl c X) {nm : PySem.Str} {d : D} {p : Pos} (h1 : c.gl nm = true) (h2 : noD nm = true) (h3 : (match d with
      | .int i => T.has (.int nm i)
      | .str s => T.has (.str nm s)
      | _ => false) = true) : JE (gOf X.K T) X Wx cl (.glo nm d) (.Name nm p) := by
  cases d with
  | int i =>
    obtain ⟨t, ht⟩ := o.bs.int_ _ _ (Tb.has_mem h3)
    exact je_glo (v := .int i) (o.gl h1) ht ⟨t, rfl⟩ (fun _ _ => .int _) (noD_1 h2).1
  | str s =>
    obtain ⟨t, ht⟩ := o.bs.str_ _ _ (Tb.has_mem h3)
    exact je_glo (v := .str s) (o.gl h1) ht ⟨t, rfl⟩ (fun _ _ => .str _) (noD_1 h2).1
  | _ => cases h3
theorem bi_gen (o : Ok T k cl c X) {b : BI} {es : Es} {t : Bool} {x : Expr} (ja : ∀ ys, chkEs T es c ys = true → JA (gOf X.K T) X Wx cl es ys) (h : ((!t || plainT x) && (match callN x with
      | some (nm, y :: ys) => decide (nm = b.x) && (plainBI b && (c.free T nm && ((y :: ys).all notStar && chkEs T es c (y :: ys))))
      | _ => false)) = true) : Res (gOf X.K T) X Wx cl (.bi b es) x t := by
  rw [Bool.and_eq_true] at h
  obtain ⟨ht, h⟩ := h
  split at h
  · rename_i nm y ys e
    rw [Bool.and_eq_true, Bool.and_eq_true, Bool.and_eq_true, Bool.and_eq_true, decide_eq_true_eq] at h
    obtain ⟨h1, h2, h3, h4, h5⟩ := h
    obtain ⟨p, q, rfl⟩ := callN_eq e
    subst h1
    exact Res.of (je_bi o.gd h2 (o.free h3) h4 (ja _ h5)) ht
  · cases h
theorem bi_one (o : Ok T k cl c X) {b : BI} {a : E} {t : Bool} {x : Expr} (ja : ∀ y, chkE T a false c y = true → JE (gOf X.K T) X Wx cl a y) (jas : ∀ ys, chkEs T (.cons a .nil) c ys = true → JA (gOf X.K T) X Wx cl (.cons a .nil) ys) (h : chkE T (.bi b (.cons a .nil)) t c x = true) : Res (gOf X.K T) X Wx cl (.bi b (.cons a .nil)) x t := by
  cases b with
  | isi ty =>
    unfold chkE at h
    rw [Bool.and_eq_true] at h
    obtain ⟨ht, h⟩ := h
    simp only at h
    split at h
    · simp only [Bool.and_eq_true, decide_eq_true_eq] at h
      obtain ⟨h1, h2, h3, h4, h5, h6⟩ := h
      subst h1; subst h2
      exact Res.of (je_isi o.gd (o.free h3) (o.free h4) h5 (ja _ h6)) ht
    · cases h
  | sortSet =>
    unfold chkE at h
    rw [Bool.and_eq_true] at h
    obtain ⟨ht, h⟩ := h
    simp only at h
    split at h
    · simp only [Bool.and_eq_true, decide_eq_true_eq] at h
      obtain ⟨h1, h2, h3, h4, h5, h6⟩ := h
      subst h1; subst h2
      exact Res.of (je_sortSet o.gd (o.free h3) (o.free h4) h5 (ja _ h6)) ht
    · cases h
  | rng =>
    unfold chkE at h
    rw [Bool.and_eq_true] at h
    obtain ⟨ht, h⟩ := h
    simp only at h
    split at h
    · simp only [Bool.and_eq_true, decide_eq_true_eq] at h
      obtain ⟨h1, h2, h3, h4, h5, h6⟩ := h
      subst h1; subst h2
      exact Res.of (je_rng o.gd (o.free h3) (o.free h4) h5 (ja _ h6)) ht
    · cases h
  | sortSum =>
    unfold chkE at h
    rw [Bool.and_eq_true] at h
    obtain ⟨ht, h⟩ := h
    simp only at h
    split at h
    · simp only [Bool.and_eq_true, decide_eq_true_eq] at h
      obtain ⟨h1, h2, h3, h4, h5, h6, h7⟩ := h
      subst h1; subst h2; subst h3
      exact Res.of (je_sortSum o.gd (o.free h4) (o.free h5) h6 (ja _ h7)) ht
    · cases h
  | _ => exact bi_gen o jas (by unfold chkE at h; exact h)
mutual
theorem chkE_ok : ∀ (e : E) (t : Bool) (c : SX) (x : Expr), chkE T e t c x = true → ∀ (X : Cx) (Wx : WX), Ok T k cl c X → Takes X Wx → Res (gOf X.K T) X Wx cl e x t
  | .var i, t, c, x, h, X, Wx, o, tk => by
    simp only [chkE, Bool.and_eq_true] at h
    obtain ⟨ht, h⟩ := h
    split at h
    · simp only [Bool.and_eq_true, decide_eq_true_eq] at h
      exact Res.of (je_var (by rw [o.N]; exact h.1) (o.vis h.2.1) (noD_1 h.2.2).1 (noD_1 h.2.2).2) ht
    · cases h
  | .lit d, t, c, x, h, X, Wx, o, tk => by
    simp only [chkE, Bool.and_eq_true] at h
    obtain ⟨ht, h⟩ := h
    split at h
    · exact Res.of0 (je_lit (litM_ok h)) ht
    · cases h
  | .glo nm d, t, c, x, h, X, Wx, o, tk => by
    simp only [chkE, Bool.and_eq_true] at h
    obtain ⟨ht, h⟩ := h
    split at h
    · simp only [Bool.and_eq_true, decide_eq_true_eq] at h
      obtain ⟨h1, h2, h3, h4⟩ := h
      subst h1
      exact Res.of0 (glo_d o h2 h3 h4) ht
    · cases h
  | .b2 oo a b, t, c, x, h, X, Wx, o, tk => by
    simp only [chkE] at h
    split at h
    · simp only [Bool.and_eq_true, decide_eq_true_eq] at h
      obtain ⟨ht, h1, h2, h3⟩ := h
      exact Res.of0 (je_bin o.gd h1 (chkE_ok a false c _ h2 X Wx o tk) (chkE_ok b false c _ h3 X Wx o tk)) ht
    · simp only [Bool.and_eq_true, decide_eq_true_eq, Bool.not_eq_true'] at h
      obtain ⟨h1, h2, h3, h4⟩ := h
      have ja := chkE_ok a false c _ h3 X Wx o tk
      have jb := chkE_ok b false c _ h4 X Wx o tk
      cases t with
      | false => exact je_cmp o.gd h1 h2 ja jb
      | true => exact jt_no (jt_cmp o.gd h1 h2 ja jb) rfl
    · cases h
  | .catN a b, t, c, x, h, X, Wx, o, tk => by
    simp only [chkE] at h
    split at h
    · simp only [Bool.and_eq_true, Bool.not_eq_true'] at h
      obtain ⟨ht, h2, h3⟩ := h
      exact Res.of0 (je_catN (chkE_ok a false c _ h2 X Wx o tk) (chkE_ok b false c _ h3 X Wx o tk)) (by rw [ht]; rfl)
    · cases h
  | .chain oo oo' a b cc, t, c, x, h, X, Wx, o, tk => by
    simp only [chkE] at h
    split at h
    · simp only [Bool.and_eq_true, decide_eq_true_eq, Bool.not_eq_true'] at h
      obtain ⟨h1, h2, h3, h4, h5, h6⟩ := h
      have ja := chkE_ok a false c _ h4 X Wx o tk
      have jb := chkE_ok b false c _ h5 X Wx o tk
      have jc := chkE_ok cc false c _ h6 X Wx o tk
      cases t with
      | false => exact je_chain o.gd h1 h2 h3 ja jb jc
      | true => exact jt_no (jt_chain o.gd h1 h2 h3 ja jb jc) rfl
    · cases h
  | .and a b, t, c, x, h, X, Wx, o, tk => by
    simp only [chkE] at h
    split at h
    · rw [Bool.and_eq_true] at h
      have ja := chkE_ok a t c _ h.1 X Wx o tk
      have jb := chkE_ok b t c _ h.2 X Wx o tk
      cases t with
      | false => exact je_and ja (je_one jb)
      | true => exact ⟨(jw_and ja.1 (jw_and1 jb.1)).t, fun _ => jw_and ja.1 (jw_and1 jb.1)⟩
    · rw [Bool.and_eq_true] at h
      have ja := chkE_ok a t c _ h.1 X Wx o tk
      have jb := chkE_ok b t c _ h.2 X Wx o tk
      cases t with
      | false => exact je_and ja jb
      | true => exact ⟨(jw_and ja.1 (jb.2 rfl)).t, fun _ => jw_and ja.1 (jb.2 rfl)⟩
    · cases h
  | .or a b, t, c, x, h, X, Wx, o, tk => by
    simp only [chkE] at h
    split at h
    · rw [Bool.and_eq_true] at h
      have ja := chkE_ok a t c _ h.1 X Wx o tk
      have jb := chkE_ok b t c _ h.2 X Wx o tk
      cases t with
      | false => exact je_or ja (je_one jb)
      | true => exact ⟨(jw_or ja.1 (jw_or1 jb.1)).t, fun _ => jw_or ja.1 (jw_or1 jb.1)⟩
    · rw [Bool.and_eq_true] at h
      have ja := chkE_ok a t c _ h.1 X Wx o tk
      have jb := chkE_ok b t c _ h.2 X Wx o tk
      cases t with
      | false => exact je_or ja jb
      | true => exact ⟨(jw_or ja.1 (jb.2 rfl)).t, fun _ => jw_or ja.1 (jb.2 rfl)⟩
    · cases h
  | .not a, t, c, x, h, X, Wx, o, tk => by
    simp only [chkE] at h
    split at h
    · have ja := chkE_ok a t c _ h X Wx o tk
      cases t with
      | false => exact je_not ja
      | true => exact jt_no (jt_not ja.1) rfl
    · cases h
  | .neg a, t, c, x, h, X, Wx, o, tk => by
    simp only [chkE, Bool.and_eq_true] at h
    obtain ⟨ht, h⟩ := h
    split at h
    · exact Res.of0 (je_neg (chkE_ok a false c _ h X Wx o tk)) ht
    · cases h
  | .ite cc a b, t, c, x, h, X, Wx, o, tk => by
    simp only [chkE] at h
    split at h
    · simp only [Bool.and_eq_true] at h
      have jc := chkE_ok cc true c _ h.1 X Wx o tk
      have ja := chkE_ok a t c _ h.2.1 X Wx o tk
      have jb := chkE_ok b t c _ h.2.2 X Wx o tk
      cases t with
      | false => exact je_ite jc.1 ja jb
      | true => exact jt_no (jt_ite jc.1 ja.1 jb.1) rfl
    · cases h
  | .tup es, t, c, x, h, X, Wx, o, tk => by
    simp only [chkE, Bool.and_eq_true] at h
    obtain ⟨ht, h⟩ := h
    split at h
    · exact Res.of0 (je_tup (chkEs_ok es c _ h X Wx o tk)) ht
    · cases h
  | .lst es, t, c, x, h, X, Wx, o, tk => by
    simp only [chkE, Bool.and_eq_true] at h
    obtain ⟨ht, h⟩ := h
    split at h
    · exact Res.of0 (je_lst (chkEs_ok es c _ h X Wx o tk)) ht
    · cases h
  | .newK, t, c, x, h, X, Wx, o, tk => by
    simp only [chkE, Bool.and_eq_true] at h
    obtain ⟨ht, h⟩ := h
    split at h
    · exact Res.of0 je_newK ht
    · cases h
  | .newT, t, c, x, h, X, Wx, o, tk => by
    simp only [chkE, Bool.and_eq_true] at h
    obtain ⟨ht, h⟩ := h
    split at h
    · exact Res.of0 je_newT ht
    · cases h
  | .idx a i, t, c, x, h, X, Wx, o, tk => by
    simp only [chkE, Bool.and_eq_true] at h
    obtain ⟨ht, h⟩ := h
    split at h
    · simp only [Bool.and_eq_true] at h
      exact Res.of (je_idx o.gd h.1 (chkE_ok a false c _ h.2.1 X Wx o tk) (chkE_ok i false c _ h.2.2 X Wx o tk)) ht
    · cases h
  | .sl a lo hi, t, c, x, h, X, Wx, o, tk => by
    simp only [chkE, Bool.and_eq_true] at h
    obtain ⟨ht, h⟩ := h
    split at h
    · simp only [Bool.and_eq_true] at h
      exact Res.of0 (je_sl (chkE_ok a false c _ h.1 X Wx o tk) (chkOE_ok lo c _ h.2.1 X Wx o tk) (chkOE_ok hi c _ h.2.2 X Wx o tk)) ht
    · cases h
  | .rev a, t, c, x, h, X, Wx, o, tk => by
    simp only [chkE, Bool.and_eq_true] at h
    obtain ⟨ht, h⟩ := h
    split at h
    · exact Res.of0 (je_rev (chkE_ok a false c _ h X Wx o tk)) ht
    · cases h
  | .fld a f, t, c, x, h, X, Wx, o, tk => by
    simp only [chkE, Bool.and_eq_true] at h
    obtain ⟨ht, h⟩ := h
    split at h
    · simp only [Bool.and_eq_true, decide_eq_true_eq] at h
      obtain ⟨h1, h2, h3⟩ := h
      subst h1
      exact Res.of (je_fld o.gf o.gd h2 (chkE_ok a false c _ h3 X Wx o tk)) ht
    · cases h
  | .bi b (.cons a .nil), t, c, x, h, X, Wx, o, tk => by
    have ja : ∀ y, chkE T a false c y = true → JE (gOf X.K T) X Wx cl a y := fun y hy => chkE_ok a false c y hy X Wx o tk
    have jas : ∀ ys, chkEs T (.cons a .nil) c ys = true → JA (gOf X.K T) X Wx cl (.cons a .nil) ys := fun ys hy => chkEs_ok (.cons a .nil) c ys hy X Wx o tk
    exact bi_one o ja jas h
  | .bi b .nil, t, c, x, h, X, Wx, o, tk => by
    have jas : ∀ ys, chkEs T .nil c ys = true → JA (gOf X.K T) X Wx cl .nil ys := fun ys hy => chkEs_ok .nil c ys hy X Wx o tk
    exact bi_gen o jas (by unfold chkE at h; cases b <;> exact h)
  | .bi b (.star a es), t, c, x, h, X, Wx, o, tk => by
    have jas : ∀ ys, chkEs T (.star a es) c ys = true → JA (gOf X.K T) X Wx cl (.star a es) ys := fun ys hy => chkEs_ok (.star a es) c ys hy X Wx o tk
    exact bi_gen o jas (by unfold chkE at h; cases b <;> exact h)
  | .bi b (.cons a (.cons a2 es)), t, c, x, h, X, Wx, o, tk => by
    have jas : ∀ ys, chkEs T (.cons a (.cons a2 es)) c ys = true → JA (gOf X.K T) X Wx cl (.cons a (.cons a2 es)) ys := fun ys hy => chkEs_ok (.cons a (.cons a2 es)) c ys hy X Wx o tk
    exact bi_gen o jas (by unfold chkE at h; cases b <;> exact h)
  | .bi b (.cons a (.star a2 es)), t, c, x, h, X, Wx, o, tk => by
    have jas : ∀ ys, chkEs T (.cons a (.star a2 es)) c ys = true → JA (gOf X.K T) X Wx cl (.cons a (.star a2 es)) ys := fun ys hy => chkEs_ok (.cons a (.star a2 es)) c ys hy X Wx o tk
    exact bi_gen o jas (by unfold chkE at h; cases b <;> exact h)
  | .get2 oo kk d, t, c, x, h, X, Wx, o, tk => by
    simp only [chkE, Bool.and_eq_true] at h
    obtain ⟨ht, h⟩ := h
    split at h
    · rename_i e
      simp only [Bool.and_eq_true, decide_eq_true_eq] at h
      obtain ⟨h1, h2, h3, h4, h5, h6, h7⟩ := h
      obtain rfl := callA_eq e
      subst h1
      exact Res.of0 (je_get2 o.gd (okA_1 h2).1 h3 h4 (okA_1 h2).2 (chkE_ok oo false c _ h5 X Wx o tk) (chkE_ok kk false c _ h6 X Wx o tk) (chkE_ok d false c _ h7 X Wx o tk)) ht
    · cases h
  | .join oo a, t, c, x, h, X, Wx, o, tk => by
    simp only [chkE, Bool.and_eq_true] at h
    obtain ⟨ht, h⟩ := h
    split at h
    · rename_i e
      simp only [Bool.and_eq_true, decide_eq_true_eq] at h
      obtain ⟨h1, h2, h3, h4, h5⟩ := h
      obtain rfl := callA_eq e
      subst h1
      exact Res.of0 (je_join (okA_1 h2).1 h3 (okA_1 h2).2 (chkE_ok oo false c _ h4 X Wx o tk) (chkE_ok a false c _ h5 X Wx o tk)) ht
    · cases h
  | .split oo a, t, c, x, h, X, Wx, o, tk => by
    simp only [chkE, Bool.and_eq_true] at h
    obtain ⟨ht, h⟩ := h
    split at h
    · rename_i e
      simp only [Bool.and_eq_true, decide_eq_true_eq] at h
      obtain ⟨h1, h2, h3, h4, h5⟩ := h
      obtain rfl := callA_eq e
      subst h1
      exact Res.of0 (je_split (okA_1 h2).1 h3 (okA_1 h2).2 (chkE_ok oo false c _ h4 X Wx o tk) (chkE_ok a false c _ h5 X Wx o tk)) ht
    · cases h
  | .pop oo, t, c, x, h, X, Wx, o, tk => by
    simp only [chkE, Bool.and_eq_true] at h
    obtain ⟨ht, h⟩ := h
    split at h
    · rename_i e
      simp only [Bool.and_eq_true, decide_eq_true_eq] at h
      obtain ⟨h1, h2, h3⟩ := h
      obtain rfl := callA_eq e
      subst h1
      exact Res.of0 (je_pop (okA_1 h2).1 (okA_1 h2).2 (chkE_ok oo false c _ h3 X Wx o tk)) ht
    · cases h
  | .popAt oo i, t, c, x, h, X, Wx, o, tk => by
    simp only [chkE, Bool.and_eq_true] at h
    obtain ⟨ht, h⟩ := h
    split at h
    · rename_i e
      simp only [Bool.and_eq_true, decide_eq_true_eq] at h
      obtain ⟨h1, h2, h3, h4, h5⟩ := h
      obtain rfl := callA_eq e
      subst h1
      exact Res.of0 (je_popAt (okA_1 h2).1 h3 (okA_1 h2).2 (chkE_ok oo false c _ h4 X Wx o tk) (chkE_ok i false c _ h5 X Wx o tk)) ht
    · cases h
  | .call f es, t, c, x, h, X, Wx, o, tk => by
    simp only [chkE, Bool.and_eq_true] at h
    obtain ⟨ht, h⟩ := h
    split at h
    · rename_i nm xs e
      simp only [Bool.and_eq_true] at h
      obtain ⟨h1, h2, h3, h4, h5, h6, h7⟩ := h
      obtain ⟨p, q, rfl⟩ := callN_eq e
      obtain ⟨np, fd, ps, F⟩ := o.ff h1
      have ja := chkEs_ok es c _ h7 X Wx o tk
      refine Res.of ?_ ht
      cases xs with
      | cons y ys => exact je_call o.gd0 tk F (o.gl h2) (o.bs.glo _ (Tb.has_mem h4)) (o.bs.keep _ (Tb.has_mem h5)) (noD_1 h3).1 h6 ja
      | nil =>
        cases es with
        | nil => exact je_call0 o.gd0 tk F (o.gl h2) (o.bs.glo _ (Tb.has_mem h4)) (o.bs.keep _ (Tb.has_mem h5)) (noD_1 h3).1
        | _ => simp only [chkEs] at h7; cases h7
    · cases h
  | .mth cc f oo es, t, c, x, h, X, Wx, o, tk => by
    simp only [chkE, Bool.and_eq_true] at h
    obtain ⟨ht, h⟩ := h
    split at h
    · rename_i y m apos xs cpos e
      simp only [Bool.and_eq_true, decide_eq_true_eq] at h
      obtain ⟨h1, h2, h3, h4, h5, h6, h7, h8, h9⟩ := h
      obtain rfl := callA_eq e
      obtain ⟨np, fd, ps, F⟩ := o.ff h1
      have jo := chkE_ok oo false c _ h8 X Wx o tk
      have ja := chkEs_ok es c _ h9 X Wx o tk
      have hc : Cls X.K ((gOf X.K T).cA cc) := o.bs.cls _ (Tb.has_mem h2)
      have hm : Meth X.K ((gOf X.K T).cA cc) m (He.fAd X.K (clsNm cc, some m)) := o.bs.meth _ _ (Tb.has_mem h3)
      refine Res.of ?_ ht
      cases xs with
      | cons z zs => exact je_mth o.gd0 tk F hc hm h4 (okA_1 h5).1 (okA_1 h5).2 (by simp at h6; omega) h7 jo ja
      | nil =>
        cases es with
        | nil => exact je_mth0 o.gd0 tk F hc hm h4 (okA_1 h5).1 (okA_1 h5).2 jo
        | _ => simp only [chkEs] at h9; cases h9
    · cases h
  | .make cc f es, t, c, x, h, X, Wx, o, tk => by
    simp only [chkE, Bool.and_eq_true] at h
    obtain ⟨ht, h⟩ := h
    split at h
    · rename_i nm y ys e
      simp only [Bool.and_eq_true, decide_eq_true_eq] at h
      obtain ⟨h0, h1, h2, h3, h4, h5, h6, h7, h8⟩ := h
      obtain ⟨p, q, rfl⟩ := callN_eq e
      subst h0
      obtain ⟨np, fd, ps, F⟩ := o.ff h1
      exact Res.of0 (je_make o.gd tk F h2 (o.bs.mkr _ (Tb.has_mem h6)) (o.gl h3) (o.bs.glo _ (Tb.has_mem h5)) (noD_1 h4).1 (by rw [List.all_cons, Bool.and_eq_true]; exact (by simpa using h7)) (chkEs_ok es c _ h8 X Wx o tk)) ht
    · cases h
  | .dead, t, c, x, h, X, Wx, o, tk => je_dead
  | .isE a, t, c, x, h, X, Wx, o, tk => by simp only [chkE] at h; cases h
  | .dig a, t, c, x, h, X, Wx, o, tk => by simp only [chkE] at h; cases h
  | .isC cc a, t, c, x, h, X, Wx, o, tk => by simp only [chkE] at h; cases h
  | .peq a b, t, c, x, h, X, Wx, o, tk => by simp only [chkE] at h; cases h
  | .prop f a, t, c, x, h, X, Wx, o, tk => by simp only [chkE] at h; cases h
  | .callD f es d, t, c, x, h, X, Wx, o, tk => by simp only [chkE] at h; cases h
  | .callK f es a, t, c, x, h, X, Wx, o, tk => by simp only [chkE] at h; cases h
  | .lenO cc f a, t, c, x, h, X, Wx, o, tk => by
    simp only [chkE, Bool.and_eq_true] at h
    obtain ⟨ht, h⟩ := h
    split at h
    · rename_i nm y e
      simp only [Bool.and_eq_true, decide_eq_true_eq] at h
      obtain ⟨h0, h1, h2, h3, h4, h5⟩ := h
      obtain ⟨p, q, rfl⟩ := callN_eq e
      subst h0
      obtain ⟨np, fd, ps, F⟩ := o.ff h1
      have hm : Meth X.K ((gOf X.K T).cA cc) "__len__" (He.fAd X.K (clsNm cc, some "__len__")) := o.bs.meth _ _ (Tb.has_mem h2)
      exact Res.of (je_lenO o.gd tk F hm (o.free h3) h4 (chkE_ok a false c _ h5 X Wx o tk)) ht
    · cases h
  | .lc elt tg it cond, t, c, x, h, X, Wx, o, tk => by
    obtain ⟨ht, y, tt, iter, ifs, scope, pos, rfl, h1, h2, h3, h4, h5, h6, h7⟩ := lc_inv h
    obtain ⟨ok, hs, jl⟩ := lc_core (Wx := Wx) o h1 h2 h3 h4 (fun Y oY tY => chkE_ok elt false _ _ h5 Y noX oY tY) (fun Y oY tY => chkC_ok cond _ _ h6 Y oY tY) h7 (fun hi => chkIt_ok it c _ _ hi X Wx o tk)
    exact Res.of0 (je_lc o.gd ok hs rfl jl) ht
  | .lc2 elt tg it tg2 it2, t, c, x, h, X, Wx, o, tk => by
    obtain ⟨ht, y, tt, iter, tt2, iter2, scope, pos, rfl, h1, h2, h3, h4, h5, h6, h7, h8, h9⟩ := lc2_inv h
    obtain ⟨ok, hv, jl⟩ := lc2_core (Wx := Wx) o h1 h4 h5 h6 (fun Y oY tY => chkE_ok elt false _ _ h7 Y noX oY tY) (chkIt_ok it c _ _ h8 X Wx o tk) (fun Y oY tY => chkIt_ok it2 _ _ _ h9 Y noX oY tY)
    exact Res.of0 (je_lc2 o.gd ok h2 h3 hv rfl jl) ht
theorem chkEs_ok : ∀ (es : Es) (c : SX) (xs : List Expr), chkEs T es c xs = true → ∀ (X : Cx) (Wx : WX), Ok T k cl c X → Takes X Wx → JA (gOf X.K T) X Wx cl es xs
  | .nil, c, xs, h, X, Wx, o, tk => by
    cases xs with
    | nil => exact ja_nil
    | cons => simp only [chkEs] at h; cases h
  | .cons e es, c, xs, h, X, Wx, o, tk => by
    simp only [chkEs] at h
    split at h
    · simp only [Bool.and_eq_true] at h
      exact ja_cons h.1 (chkE_ok e false c _ h.2.1 X Wx o tk) (chkEs_ok es c _ h.2.2 X Wx o tk)
    · cases h
  | .star e es, c, xs, h, X, Wx, o, tk => by
    simp only [chkEs] at h
    split at h
    · simp only [Bool.and_eq_true] at h
      exact ja_star (chkE_ok e false c _ h.1 X Wx o tk) (chkEs_ok es c _ h.2 X Wx o tk)
    · cases h
theorem chkOE_ok : ∀ (e : OE) (c : SX) (x : Option Expr), chkOE T e c x = true → ∀ (X : Cx) (Wx : WX), Ok T k cl c X → Takes X Wx → JO (gOf X.K T) X Wx cl e x
  | .no, c, x, h, X, Wx, o, tk => by
    cases x with
    | none => exact jo_no
    | some => simp only [chkOE] at h; cases h
  | .so e, c, x, h, X, Wx, o, tk => by
    simp only [chkOE] at h
    split at h
    · exact jo_so (chkE_ok e false c _ h X Wx o tk)
    · cases h
theorem chkC_ok : ∀ (e : OE) (c : SX) (xs : List Expr), chkC T e c xs = true → ∀ (X : Cx), Ok T k cl c X → Takes X noX → JC (gOf X.K T) X noX cl e xs
  | .no, c, xs, h, X, o, tk => by
    cases xs with
    | nil => exact jc_no
    | cons => simp only [chkC] at h; cases h
  | .so e, c, xs, h, X, o, tk => by
    simp only [chkC] at h
    split at h
    · exact jc_so (chkE_ok e true c _ h X noX o tk).1
    · cases h
theorem chkIt_ok : ∀ (it : It) (c : SX) (tt x : Expr), chkIt T it c tt x = true → ∀ (X : Cx) (Wx : WX), Ok T k cl c X → Takes X Wx → JI (gOf X.K T) X Wx cl it tt x
  | .e a, c, tt, x, h, X, Wx, o, tk => by
    simp only [chkIt] at h
    exact ji_e rfl (chkE_ok a false c _ h X Wx o tk)
  | .enum a, c, tt, x, h, X, Wx, o, tk => by
    simp only [chkIt, Bool.and_eq_true] at h
    obtain ⟨ht, h⟩ := h
    split at h
    · rename_i e
      simp only [Bool.and_eq_true, decide_eq_true_eq] at h
      obtain ⟨h1, h2, h3, h4⟩ := h
      obtain ⟨p, q, rfl⟩ := callN_eq e
      subst h1
      cases tt with
      | Tuple elts kk tpos => exact ji_enm rfl (o.free h2) h3 (chkE_ok a false c _ h4 X Wx o tk)
      | _ => cases ht
    · cases h
  | .r1 a, c, tt, x, h, X, Wx, o, tk => by
    simp only [chkIt] at h
    split at h
    · rename_i e
      simp only [Bool.and_eq_true, decide_eq_true_eq] at h
      obtain ⟨h1, h2, h3, h4⟩ := h
      obtain ⟨p, q, rfl⟩ := callN_eq e
      subst h1
      exact ji_r1 (o.free h2) h3 (chkE_ok a false c _ h4 X Wx o tk)
    · cases h
  | .r2 a b, c, tt, x, h, X, Wx, o, tk => by
    simp only [chkIt] at h
    split at h
    · rename_i e
      simp only [Bool.and_eq_true, decide_eq_true_eq] at h
      obtain ⟨h1, h2, h3, h4, h5, h6⟩ := h
      obtain ⟨p, q, rfl⟩ := callN_eq e
      subst h1
      exact ji_r2 (o.free h2) h3 h4 (chkE_ok a false c _ h5 X Wx o tk) (chkE_ok b false c _ h6 X Wx o tk)
    · cases h
  | .keys a, c, tt, x, h, X, Wx, o, tk => by simp only [chkIt] at h; cases h
  | .items a, c, tt, x, h, X, Wx, o, tk => by simp only [chkIt] at h; cases h
end
end
end Bf

set_option Elab.async false
set_option linter.all false
set_option maxHeartbeats 4000000
set_option maxRecDepth 10000
/-! The checker on statements. -/
namespace Bf
open PySem PySem.Spec PyProof.Rows L2
def bkOf (sc : Scope) : ScopeKind := if sc.kind.isAnnotationScope then .function else sc.kind
/-- whether a comprehension stored in nm takes the name's place at once -/
def swV (sc : Scope) (nm : PySem.Str) (p p2 : Pos) (scope : Scope) : Bool :=
  bkOf sc == .function && sc.names.lookup nm == some .local && p.line == p2.line && !(scope.names.any fun (n, k) => n == nm && (k == .local || k == .cell))
theorem swaps_lc {y : Expr} {gs : List Comprehension} {scope : Scope} {p p2 : Pos} {nm : PySem.Str} {l : Nat} {env : PySem.Env} : swapsWith (.ListComp y gs scope p2) (some (.Name nm p)) l env = pure (swV env.scope nm p p2 scope) := rfl
/-- what a pair's stores do: none: not told -/
def swRes (sc : Scope) (ts vs : List Expr) : Option (Option (List PySem.Str)) :=
  if (!(ts.length == 2 || ts.length == 3) || vs.length != ts.length || bkOf sc != .function) = true then some none
  else if (vs.any fun | .Starred .. => true | _ => false) = true then some none
  else
    let line := (ts.head?.map (·.pos.line)).getD 0
    let names := ts.filterMap fun
      | .Name id pos => if sc.names.lookup id == some .local && pos.line == line then some id else none
      | _ => none
    if (names.length != ts.length || names.eraseDups.length != names.length) = true then some none
    else if (vs.all (foldedForSure 8)) = true then some none
    else if (vs.all (constantsAlone 8)) = true then none
    else some (some names)
theorem swRes_ok {ts vs : List Expr} {a b : Nat} {p q : Pos} {env : PySem.Env} {r : Option (List PySem.Str)} (h : swRes env.scope ts vs = some r) : swappedStores [.Tuple ts a p] (.Tuple vs b q) env = pure r := by
  unfold swRes at h
  unfold swappedStores
  dsimp only
  show (if (!(ts.length == 2 || ts.length == 3) || vs.length != ts.length || env.blockKind != .function) = true then _ else _) = _
  split at h
  · rename_i h1
    cases h
    rw [if_pos (by exact h1)]
  · rename_i h1
    rw [if_neg (by exact h1)]
    split at h
    · rename_i h2
      cases h
      rw [if_pos (by exact h2)]
    · rename_i h2
      rw [if_neg (by exact h2)]
      simp only at h
      split at h
      · rename_i h3
        cases h
        rw [if_pos (by exact h3)]
      · rename_i h3
        rw [if_neg (by exact h3)]
        split at h
        · rename_i h4
          cases h
          rw [if_pos (by exact h4)]
        · rename_i h4
          rw [if_neg (by exact h4)]
          split at h
          · cases h
          · rename_i h5
            cases h
            rw [if_neg (by exact h5)]
            rfl
section
variable {g : Glo} {X : Cx} {Wx : WX} {cl : Nat → List W → Mem → Rs W} {n0 k : Nat} {pos p p2 : Pos} {a : E} {x y t iter : Expr} {i : Nat} {nm : PySem.Str}
theorem js_set' (G : Gd g k X) (st : Stor X i nm) (hsw : swapsWith x (some (.Name nm p)) pos.line X.env = pure false) (ja : JE g X Wx cl a x) : JS g X Wx cl n0 (.set i a) (.Assign [.Name nm p] x pos) := fun env M σ H cs B D hn he m post => by
  refine SemS.of (ps_set G.nd st.ix st.loc pe_sem hsw st.fn) ?_
  simp only [evS] at post
  refine (ja env M σ H cs B [] _ (.inl rfl) he m (toV_postS he m post)).mono fun v H1 ⟨w, M1, e1, m1, r1, p1⟩ => ?_
  have he1 := he.keep e1.keep
  cases w with
  | f => exact p1.elim
  | v d => exact p1 cs _ H1 .refl (he1.set (r1.rw m)) m1
  | c j => exact p1 cs _ H1 .refl (he1.set (r1.rw m)) m1
  | n xs => exact p1 cs _ H1 .refl (he1.set (r1.rw m)) m1
theorem setC_post {cs : List CA} {B : List Addr} {env : Env} {M : Mem} {σ : L2.St} {H : Hp} {D : Ends} (hn : n0 ≤ cs.length) (he : ER g cs H (NV cs B) env σ) (m : MR g cs B [] H M) (post : PostS g n0 cs B Wx H (evS cl n0 (.setC i a) env M) D) :
    Post g cs B [] Wx σ (RS g cs B []) H (evE cl a env M) (fun v H1 => D.nx (σ.set i (some v)) H1) := by
  simp only [evS] at post
  cases hr : evE cl a env M with
  | no => rw [hr] at post; exact post
  | ex c f M' => rw [hr] at post; exact fun dd H' e m z => post cs dd σ H' (.of e) (he.keep e.keep) m z
  | ok w M' =>
    rw [hr] at post
    intro v H1 e1 m1 r1
    simp only [onR] at post
    cases r1 with
    | n hp hav hv mr rl =>
      rename_i q vs xs
      have hB : q ∉ B := fun z => by
        obtain ⟨us, hu⟩ := m.bt q z
        rw [hp] at hu; cases hu
      have st2 : Step n0 cs (cs ++ [⟨q, []⟩]) H H1 := .adopt e1 hp hn
      exact post _ _ H1 st2 (er_cell st2 he m1.len) (mr.adopt hB (.lst hv rl))
    | v => exact post.elim
    | c => exact post.elim
    | f => exact post.elim
theorem js_setC' (G : Gd g k X) (st : Stor X i nm) (hsw : swapsWith x (some (.Name nm p)) pos.line X.env = pure false) (ja : JE g X Wx cl a x) : JS g X Wx cl n0 (.setC i a) (.Assign [.Name nm p] x pos) := fun env M σ H cs B D hn he m post => by
  refine SemS.of (ps_set G.nd st.ix st.loc pe_sem hsw st.fn) ?_
  exact ja env M σ H cs B [] _ (.inl rfl) he m (setC_post hn he m post)
theorem js_setCLc {ifs : List Expr} {scope : Scope} {own : List (PySem.Str × Nat)} (G : Gd g k X) (st : Stor X i nm) (hloc : X.env.scope.names.lookup nm = some .local) (ok : BlkOk X.N X.env.scope scope own) (hs : notSet iter = true)
    (hsw : swapsWith (.ListComp y [⟨t, iter, ifs, 0⟩] scope p2) (some (.Name nm p)) pos.line X.env = pure true) (jl : JL g X Wx cl a scope (own.map (·.2)) y t iter ifs) : JS g X Wx cl n0 (.setC i a) (.Assign [.Name nm p] (.ListComp y [⟨t, iter, ifs, 0⟩] scope p2) pos) := fun env M σ H cs B D hn he m post => by
  refine ps_setLcQ G st hloc ok hs hsw ?_
  exact jl env M σ H cs B _ he m (setC_post hn he m post)
end
section
variable (T : Tb)
def chkSu (c : SX) : Su → List Stmt → Bool
  | .lit i d, [.Assign [.Name nm _] (.Constant k _ _) _] => c.stor i nm && litM d k
  | .inc i, [.Assign [.Name nm _] (.BinOp (.Name n2 _) .Add (.Constant (.int 1) _ _) _) _] => decide (n2 = nm) && (c.stor i nm && (c.vis nm && noD nm))
  | _, _ => false
def chkHs (c : SX) (xs : List Nat) : List (Nat × Option Nat × Su) → List ExceptHandler → Bool
  | [], [] => true
  | (b, none, su) :: hs, .ExceptHandler (some (.Name nm _)) none (s :: ss) _ :: hds => decide (nm = clsNm b) && (c.gl nm && (noD nm && (T.has (.glo nm) && ((xs.all fun x => T.has (.exm (clsNm x) nm (isSub x b))) && (chkSu c su (s :: ss) && chkHs c xs hs hds)))))
  | _, _ => false
/-- a comprehension that is stored at once -/
def notLc2 : E → Bool
  | .lc2 .. => false
  | _ => true
def isLc : E → Bool
  | .lc .. => true
  | .lc2 .. => true
  | _ => false
def chkSet (c : SX) (e : E) (nm : PySem.Str) (p : Pos) (v : Expr) : Bool := chkE T e false c v && (match v with
  | .ListComp _ _ scope p2 => !(swV c.sc nm p p2 scope) || isLc e
  | .SetComp .. => false
  | .DictComp .. => false
  | _ => true)
mutual
def chkS : S → SX → Stmt → Bool
  | .set i e, c, x => (match x with
    | .Assign [.Name nm p] v _ => c.stor i nm && chkSet T c e nm p v
    | _ => false)
  | .setC i e, c, x => (match x with
    | .Assign [.Name nm p] v _ => c.stor i nm && (notLc2 e && chkSet T c e nm p v)
    | _ => false)
  | .setK i, c, x => (match x with
    | .Assign [.Name nm _] (.Dict [] [] _) _ => c.stor i nm
    | _ => false)
  | .setT i, c, x => (match x with
    | .Assign [.Name nm _] (.Dict [] [] _) _ => c.stor i nm
    | _ => false)
  | .setCall i f es, c, x => (match x with
    | .Assign [.Name nm _] (.Call (.Name fn _) (y :: ys) [] _) _ => c.stor i nm && (rowAt T f (fn, none) false && (c.gl fn && (noD fn && (T.has (.glo fn) && (T.has (.keep fn) && ((y :: ys).all notStar && chkEs T es c (y :: ys)))))))
    | _ => false)
  | .setMk i cc f es, c, x => (match x with
    | .Assign [.Name nm _] (.Call (.Name fn _) (y :: ys) [] _) _ => c.stor i nm && (decide (fn = clsNm cc) && (rowAt T f (fn, some "__init__") true && (hasC T cc && (c.gl fn && (noD fn && (T.has (.glo fn) && (T.has (.mkr fn) && ((y :: ys).all notStar && chkEs T es c (y :: ys)))))))))
    | _ => false)
  | .par i j a b, c, x => (match x with
    | .Assign [.Tuple [.Name nm p, .Name fn p2] _ _] (.Tuple [y, z] _ _) _ => decide (c.N[i]? = some nm) && (decide (c.N[j]? = some fn) && (decide (i ≠ j) && (c.isL nm && (c.isL fn && (notStar y && (notStar z && (decide (swRes c.sc [.Name nm p, .Name fn p2] [y, z] = some (some [nm, fn])) && (chkE T a false c y && chkE T b false c z))))))))
    | _ => false)
  | .parC i j, c, x => (match x with
    | .Assign [.Tuple [.Name nm p, .Name fn p2] _ _] (.Tuple [.List [] p3, .List [] p4] _ _) _ => decide (c.N[i]? = some nm) && (decide (c.N[j]? = some fn) && (decide (i ≠ j) && (c.isL nm && (c.isL fn && decide (swRes c.sc [.Name nm p, .Name fn p2] [.List [] p3, .List [] p4] = some (some [nm, fn]))))))
    | _ => false)
  | .unp tg e, c, x => (match x with
    | .Assign [.Tuple ts a b] v _ => notLc v && (chkTg c tg (.Tuple ts a b) && (chkE T e false c v && (match v with
      | .Tuple vs _ _ => decide (swRes c.sc ts vs = some none)
      | _ => true)))
    | _ => false)
  | .ret e, c, x => (match x with
    | .Return (some v) _ => chkE T e false c v
    | _ => false)
  | .retN, _, x => (match x with
    | .Return none _ => true
    | _ => false)
  | .retL es, c, x => (match x with
    | .Return (some (.List xs _)) _ => chkEs T es c xs
    | _ => false)
  | .ite cc a b, c, x => (match x with
    | .If v sa sb _ => chkE T cc true c v && (chkSs a c sa && chkSs b c sb)
    | _ => false)
  | .loop tg it body, c, x => (match x with
    | .For t iter sts [] _ => notSet iter && (chkIt T it c t iter && (chkTg c tg t && chkSs body c sts))
    | _ => false)
  | .loopD tg it body, c, x => (match x with
    | .For t iter sts [] _ => notSet iter && (chkTg c tg t && (chkSs body c sts && (match it with
      | .keys a => chkP c a iter
      | .items a => (match callA iter with
        | some (z, m, apos, [], cpos) => decide (m = "items") && (okA z apos cpos && (isTup t && chkP c a z))
        | _ => false)
      | _ => false)))
    | _ => false)
  | .ex e, c, x => (match x with
    | .Expr v _ => notLc v && chkE T e false c v
    | _ => false)
  | .app o e, c, x => (match x with
    | .Expr v _ => (match callA v with
      | some (y, m, apos, [z], cpos) => decide (m = "append") && (okA y apos cpos && (notStar z && (chkE T o false c y && chkE T e false c z)))
      | _ => false)
    | _ => false)
  | .extnd o e, c, x => (match x with
    | .Expr v _ => (match callA v with
      | some (y, m, apos, [z], cpos) => decide (m = "extend") && (okA y apos cpos && (notStar z && (chkE T o false c y && chkE T e false c z)))
      | _ => false)
    | _ => false)
  | .setd o kk e, c, x => (match x with
    | .Expr v _ => (match callA v with
      | some (y, m, apos, [z, w], cpos) => decide (m = "setdefault") && (okA y apos cpos && (notStar z && (notStar w && (chkE T o false c y && (chkE T kk false c z && chkE T e false c w)))))
      | _ => false)
    | _ => false)
  | .put o kk e, c, x => (match x with
    | .Assign [.Subscript y z _] v _ => plainIxB z && (chkE T o false c y && (chkE T kk false c z && chkE T e false c v))
    | _ => false)
  | .fput o g e, c, x => (match x with
    | .Assign [.Attribute y m _] v _ => decide (m = g.nm) && (notLc v && (chkE T o false c y && chkE T e false c v))
    | _ => false)
  | .fnew o g e, c, x => (match o with
    | .var i => (match x with
      | .Assign [.Attribute y m _] v _ => decide (m = g.nm) && (chkE T (.var i) false c y && (match e, v with
        | .lst .nil, .List [] _ => true
        | .newK, .Dict [] [] _ => true
        | _, _ => false))
      | _ => false)
    | _ => false)
  | .raise cc es, c, x => (match es, x with
    | .nil, .Raise (some (.Call (.Name nm _) [] [] _)) none _ => decide (nm = clsNm cc) && (c.gl nm && (noD nm && (T.has (.glo nm) && T.has (.exc nm))))
    | _, _ => false)
  | .try_ xs body hs, c, x => (match x with
    | .Try sts (h :: hds) [] [] _ => chkHs T c xs hs (h :: hds) && chkSs body c sts
    | _ => false)
  | .pass, _, x => (match x with
    | .Pass _ => true
    | _ => false)
  | .dead, _, _ => true
def chkSs : Ss → SX → List Stmt → Bool
  | .nil, _, xs => xs.isEmpty
  | .cons s ss, c, xs => (match xs with
    | x :: xs => chkS s c x && chkSs ss c xs
    | [] => false)
end
end
end Bf

set_option Elab.async false
set_option linter.all false
set_option maxHeartbeats 4000000
set_option maxRecDepth 10000
/-! The checker is right: statements. -/
namespace Bf
open PySem PySem.Spec PyProof.Rows L2
/-- a def's own context -/
structure OkS (T : Tb) (k : Nat) (cl : Nat → List W → Mem → Rs W) (c : SX) (X : Cx) (Wx : WX) : Prop where
  o : Ok T k cl c X
  hst : X.stack = X.env :: X.outer
  hf : X.env.frame = some X.env.locals
  po : PassesOwn (model X.prog X.w) X.A X.env X.xe
  tk : Takes X Wx
section
variable {T : Tb} {k : Nat} {cl : Nat → List W → Mem → Rs W} {c : SX} {X : Cx} {Wx : WX} {n0 : Nat}
theorem OkS.tr (q : OkS T k cl c X Wx) {W' : WX} {pn : List (Addr × Obj)} {xe : Value → Shared → Prop} (t : Takes (X.tr pn xe) W') (p : PassesOwn (model X.prog X.w) X.A X.env xe) : OkS T k cl c (X.tr pn xe) W' :=
  ⟨⟨q.o.N, q.o.sc, q.o.fn, q.o.nd, q.o.calm, q.o.room, q.o.bs⟩, q.hst, q.hf, p, t⟩
theorem lc_jl (o : Ok T k cl c X) (tk : Takes X Wx) {e : E} {v : Expr} (h : chkE T e false c v = true) (hl : isLc e = true) :
    (∃ y t iter ifs scope own p, v = .ListComp y [⟨t, iter, ifs, 0⟩] scope p ∧ BlkOk X.N X.env.scope scope own ∧ notSet iter = true ∧ JL (gOf X.K T) X Wx cl e scope (own.map (·.2)) y t iter ifs) ∨
    ∃ y t iter t2 iter2 scope own vs1 p, v = .ListComp y [⟨t, iter, [], 0⟩, ⟨t2, iter2, [], 0⟩] scope p ∧ BlkOk X.N X.env.scope scope own ∧ notSet iter = true ∧ notSet iter2 = true ∧ (∀ i, i ∈ vs1 → i ∈ own.map (·.2)) ∧ JL2 (gOf X.K T) X Wx cl e scope (own.map (·.2)) vs1 y t iter t2 iter2 := by
  cases e with
  | lc elt tg it cond =>
    obtain ⟨ht, y, tt, iter, ifs, scope, pos, rfl, h1, h2, h3, h4, h5, h6, h7⟩ := lc_inv h
    obtain ⟨ok, hs, jl⟩ := lc_core (Wx := Wx) o h1 h2 h3 h4 (fun Y oY tY => chkE_ok elt false _ _ h5 Y noX oY tY) (fun Y oY tY => chkC_ok cond _ _ h6 Y oY tY) h7 (fun hi => chkIt_ok it c _ _ hi X Wx o tk)
    exact .inl ⟨_, _, _, _, _, _, _, rfl, ok, hs, jl⟩
  | lc2 elt tg it tg2 it2 =>
    obtain ⟨ht, y, tt, iter, tt2, iter2, scope, pos, rfl, h1, h2, h3, h4, h5, h6, h7, h8, h9⟩ := lc2_inv h
    obtain ⟨ok, hv, jl⟩ := lc2_core (Wx := Wx) o h1 h4 h5 h6 (fun Y oY tY => chkE_ok elt false _ _ h7 Y noX oY tY) (chkIt_ok it c _ _ h8 X Wx o tk) (fun Y oY tY => chkIt_ok it2 _ _ _ h9 Y noX oY tY)
    exact .inr ⟨_, _, _, _, _, _, _, _, _, rfl, ok, h2, h3, hv, jl⟩
  | _ => cases hl
theorem swV_loc {sc : Scope} {nm : PySem.Str} {p p2 : Pos} {scope : Scope} (h : swV sc nm p p2 scope = true) : sc.names.lookup nm = some .local := by
  unfold swV at h
  simp only [Bool.and_eq_true, beq_iff_eq] at h
  exact h.1.1.2
theorem set_sw (o : Ok T k cl c X) {e : E} {nm : PySem.Str} {p : Pos} {v : Expr} {l : Nat} (h : chkSet T c e nm p v = true) :
    swapsWith v (some (.Name nm p)) l X.env = pure false ∨ (swapsWith v (some (.Name nm p)) l X.env = pure true ∧ X.env.scope.names.lookup nm = some .local ∧ isLc e = true) := by
  unfold chkSet at h
  rw [Bool.and_eq_true] at h
  obtain ⟨_, h⟩ := h
  cases v with
  | ListComp y gs scope p2 =>
    simp only [Bool.or_eq_true, Bool.not_eq_true'] at h
    rw [swaps_lc, o.sc]
    cases e1 : swV c.sc nm p p2 scope with
    | false => exact .inl rfl
    | true =>
      rw [e1] at h
      exact .inr ⟨rfl, swV_loc e1, h.resolve_left (by decide)⟩
  | SetComp => cases h
  | DictComp => cases h
  | _ => exact .inl rfl
theorem set_ok (q : OkS T k cl c X Wx) {i : Nat} {e : E} {nm : PySem.Str} {p pos : Pos} {v : Expr} (h1 : c.stor i nm = true) (h2 : chkSet T c e nm p v = true) : JS (gOf X.K T) X Wx cl n0 (.set i e) (.Assign [.Name nm p] v pos) := by
  have hc : chkE T e false c v = true := by unfold chkSet at h2; rw [Bool.and_eq_true] at h2; exact h2.1
  rcases set_sw (l := pos.line) q.o h2 with hs | ⟨hs, hl, he⟩
  · exact js_set' q.o.gd (q.o.stor h1) hs (chkE_ok e false c v hc X Wx q.o q.tk)
  · rcases lc_jl q.o q.tk hc he with ⟨y, t, iter, ifs, scope, own, p2, rfl, ok, hn, jl⟩ | ⟨y, t, iter, t2, iter2, scope, own, vs1, p2, rfl, ok, hn, hn2, hv, jl⟩
    · exact js_setLc q.o.gd (q.o.stor h1) hl ok hn hs jl
    · exact js_setLc2 q.o.gd (q.o.stor h1) hl ok hn hn2 hv hs jl
theorem setC_ok (q : OkS T k cl c X Wx) {i : Nat} {e : E} {nm : PySem.Str} {p pos : Pos} {v : Expr} (h1 : c.stor i nm = true) (h2 : chkSet T c e nm p v = true) (h3 : notLc2 e = true) : JS (gOf X.K T) X Wx cl n0 (.setC i e) (.Assign [.Name nm p] v pos) := by
  have hc : chkE T e false c v = true := by unfold chkSet at h2; rw [Bool.and_eq_true] at h2; exact h2.1
  rcases set_sw (l := pos.line) q.o h2 with hs | ⟨hs, hl, he⟩
  · exact js_setC' q.o.gd (q.o.stor h1) hs (chkE_ok e false c v hc X Wx q.o q.tk)
  · cases e with
    | lc elt tg it cond =>
      obtain ⟨ht, y, tt, iter, ifs, scope, p2, rfl, h1', h2', h3, h4, h5, h6, h7⟩ := lc_inv hc
      obtain ⟨ok, hn, jl⟩ := lc_core (Wx := Wx) q.o h1' h2' h3 h4 (fun Y oY tY => chkE_ok elt false _ _ h5 Y noX oY tY) (fun Y oY tY => chkC_ok cond _ _ h6 Y oY tY) h7 (fun hi => chkIt_ok it c _ _ hi X Wx q.o q.tk)
      exact js_setCLc q.o.gd (q.o.stor h1) hl ok hn hs jl
    | lc2 => cases h3
    | _ => cases he
theorem chkSu_ok (o : Ok T k cl c X) {su : Su} {ss : List Stmt} (h : chkSu c su ss = true) : SuOk X su ss := by
  unfold chkSu at h
  split at h
  · rw [Bool.and_eq_true] at h
    exact .lit (o.stor h.1) h.2
  · simp only [Bool.and_eq_true, decide_eq_true_eq] at h
    obtain ⟨h1, h2, h3, h4⟩ := h
    subst h1
    exact .inc (o.stor h2) (o.vis h3) (noD_1 h4).1 (noD_1 h4).2
  · cases h
theorem chkHs_ok (o : Ok T k cl c X) {xs : List Nat} : ∀ {hs : List (Nat × Option Nat × Su)} {hds : List ExceptHandler}, chkHs T c xs hs hds = true → HsOk (gOf X.K T) X xs hs hds
  | [], [], _ => .nil
  | [], _ :: _, h => by cases h
  | (b, n, su) :: hs, [], h => by cases n <;> cases h
  | (b, n, su) :: hs, hd :: hds, h => by
    unfold chkHs at h
    split at h
    · rename_i e1 e2; cases e1
    · rename_i b' su' hs' nm np s ss pos' hds' e1 e2
      cases e1; cases e2
      simp only [Bool.and_eq_true, decide_eq_true_eq] at h
      obtain ⟨h1, h2, h3, h4, h5, h6, h7⟩ := h
      subst h1
      refine .cons ⟨o.gl h2, (noD_1 h3).1, .inl (o.bs.glo _ (Tb.has_mem h4))⟩ (fun cc hc => ?_) (chkSu_ok o h6) (chkHs_ok o h7)
      exact o.bs.exm _ _ _ (Tb.has_mem (List.all_eq_true.mp h5 cc hc))
    · cases h
theorem unp_sw {ts : List Expr} {a : Nat} {b : Pos} {v : Expr} {env : PySem.Env} (hl : notLc v = true) : ∀ l, swapsWithSole [.Tuple ts a b] v l env = pure false := fun l => by
  cases v <;> first | rfl | cases hl
theorem unp_st {ts : List Expr} {a : Nat} {b : Pos} {v : Expr} {env : PySem.Env} (h : (match v with
      | .Tuple vs _ _ => decide (swRes env.scope ts vs = some none)
      | _ => true) = true) : swappedStores [.Tuple ts a b] v env = pure none := by
  cases v with
  | Tuple vs a' b' => exact swRes_ok (of_decide_eq_true h)
  | _ => rfl
theorem sub_sw {y z v : Expr} {p : Pos} {env : PySem.Env} : ∀ l, swapsWithSole [.Subscript y z p] v l env = pure false := fun l => by
  cases v <;> rfl
theorem sub_st {y z v : Expr} {p : Pos} {env : PySem.Env} : swappedStores [.Subscript y z p] v env = pure none := by
  cases v <;> rfl
theorem var_je (o : Ok T k cl c X) {i : Nat} {y : Expr} (h : chkE T (.var i) false c y = true) : JE (gOf X.K T) X Wx cl (.var i) y := by
  simp only [chkE, Bool.and_eq_true] at h
  obtain ⟨_, h⟩ := h
  split at h
  · simp only [Bool.and_eq_true, decide_eq_true_eq] at h
    exact je_var (by rw [o.N]; exact h.1) (o.vis h.2.1) (noD_1 h.2.2).1 (noD_1 h.2.2).2
  · cases h
mutual
theorem chkS_ok : ∀ (s : S) (c : SX) (x : Stmt), chkS T s c x = true → ∀ (X : Cx) (Wx : WX), OkS T k cl c X Wx → JS (gOf X.K T) X Wx cl n0 s x
  | .set i e, c, x, h, X, Wx, q => by
    simp only [chkS] at h
    split at h
    · rw [Bool.and_eq_true] at h
      exact set_ok q h.1 h.2
    · cases h
  | .setC i e, c, x, h, X, Wx, q => by
    simp only [chkS] at h
    split at h
    · rw [Bool.and_eq_true, Bool.and_eq_true] at h
      exact setC_ok q h.1 h.2.2 h.2.1
    · cases h
  | .setK i, c, x, h, X, Wx, q => by
    simp only [chkS] at h
    split at h
    · exact js_setK q.o.gd (q.o.stor h)
    · cases h
  | .setT i, c, x, h, X, Wx, q => by
    simp only [chkS] at h
    split at h
    · exact js_setT q.o.gd (q.o.stor h)
    · cases h
  | .setCall i f es, c, x, h, X, Wx, q => by
    simp only [chkS] at h
    split at h
    · rw [Bool.and_eq_true, Bool.and_eq_true, Bool.and_eq_true, Bool.and_eq_true, Bool.and_eq_true, Bool.and_eq_true, Bool.and_eq_true] at h
      obtain ⟨h1, h2, h3, h4, h5, h6, h7, h8⟩ := h
      obtain ⟨np, fd, ps, F⟩ := q.o.ff h2
      exact js_setCall q.o.gd0 (q.o.stor h1) q.tk F (q.o.gl h3) (q.o.bs.glo _ (Tb.has_mem h5)) (q.o.bs.keep _ (Tb.has_mem h6)) (noD_1 h4).1 h7 (chkEs_ok es c _ h8 X Wx q.o q.tk)
    · cases h
  | .setMk i cc f es, c, x, h, X, Wx, q => by
    simp only [chkS] at h
    split at h
    · rw [Bool.and_eq_true, Bool.and_eq_true, Bool.and_eq_true, Bool.and_eq_true, Bool.and_eq_true, Bool.and_eq_true, Bool.and_eq_true, Bool.and_eq_true, Bool.and_eq_true, decide_eq_true_eq] at h
      obtain ⟨h1, h0, h2, h3, h4, h5, h6, h7, h8, h9⟩ := h
      subst h0
      obtain ⟨np, fd, ps, F⟩ := q.o.ff h2
      exact js_setMk q.o.gd (q.o.stor h1) q.tk F h3 (q.o.bs.mkr _ (Tb.has_mem h7)) (q.o.gl h4) (q.o.bs.glo _ (Tb.has_mem h6)) (noD_1 h5).1 h8 (chkEs_ok es c _ h9 X Wx q.o q.tk)
    · cases h
  | .par i j a b, c, x, h, X, Wx, q => by
    simp only [chkS] at h
    split at h
    · simp only [Bool.and_eq_true, decide_eq_true_eq] at h
      obtain ⟨h1, h2, h3, h4, h5, h6, h7, h8, h9, h10⟩ := h
      exact js_par q.o.gd (by rw [q.o.N]; exact h1) (by rw [q.o.N]; exact h2) h3 (q.o.isL h4) (q.o.isL h5) h6 h7 (swRes_ok (by rw [q.o.sc]; exact h8)) (chkE_ok a false c _ h9 X Wx q.o q.tk) (chkE_ok b false c _ h10 X Wx q.o q.tk)
    · cases h
  | .parC i j, c, x, h, X, Wx, q => by
    simp only [chkS] at h
    split at h
    · simp only [Bool.and_eq_true, decide_eq_true_eq] at h
      obtain ⟨h1, h2, h3, h4, h5, h6⟩ := h
      exact js_parC q.o.gd (by rw [q.o.N]; exact h1) (by rw [q.o.N]; exact h2) h3 (q.o.isL h4) (q.o.isL h5) (swRes_ok (by rw [q.o.sc]; exact h6))
    · cases h
  | .unp tg e, c, x, h, X, Wx, q => by
    simp only [chkS] at h
    split at h
    · rw [Bool.and_eq_true, Bool.and_eq_true, Bool.and_eq_true] at h
      obtain ⟨h1, h2, h3, h4⟩ := h
      exact js_unp h1 (unp_sw h1) (unp_st (by rw [q.o.sc]; exact h4)) rfl (chkE_ok e false c _ h3 X Wx q.o q.tk) (chkTg_ok q.o h2)
    · cases h
  | .ret e, c, x, h, X, Wx, q => by
    simp only [chkS] at h
    split at h
    · exact js_ret (chkE_ok e false c _ h X Wx q.o q.tk)
    · cases h
  | .retN, c, x, h, X, Wx, q => by
    simp only [chkS] at h
    split at h
    · exact js_retN
    · cases h
  | .retL es, c, x, h, X, Wx, q => by
    simp only [chkS] at h
    split at h
    · exact js_retL (chkEs_ok es c _ h X Wx q.o q.tk)
    · cases h
  | .ite cc a b, c, x, h, X, Wx, q => by
    simp only [chkS] at h
    split at h
    · simp only [Bool.and_eq_true] at h
      exact js_ite (chkE_ok cc true c _ h.1 X Wx q.o q.tk).1 (chkSs_ok a c _ h.2.1 X Wx q) (chkSs_ok b c _ h.2.2 X Wx q)
    · cases h
  | .loop tg it body, c, x, h, X, Wx, q => by
    simp only [chkS] at h
    split at h
    · simp only [Bool.and_eq_true] at h
      exact js_loop q.o.gd q.po h.1 (chkIt_ok it c _ _ h.2.1 X Wx q.o q.tk) (chkTg_ok q.o h.2.2.1) (chkSs_ok body c _ h.2.2.2 X Wx q)
    · cases h
  | .loopD tg (.keys a) body, c, x, h, X, Wx, q => by
    simp only [chkS] at h
    split at h
    · simp only [Bool.and_eq_true] at h
      exact js_loopKeys q.o.gd q.po h.1 (chkP_ok q.o h.2.2.2) (chkTg_ok q.o h.2.1) (chkSs_ok body c _ h.2.2.1 X Wx q)
    · cases h
  | .loopD tg (.items a) body, c, x, h, X, Wx, q => by
    simp only [chkS] at h
    split at h
    · rename_i t iter sts pos
      simp only [Bool.and_eq_true] at h
      obtain ⟨h1, h2, h3, h4⟩ := h
      split at h4
      · rename_i z m apos cpos e
        simp only [Bool.and_eq_true, decide_eq_true_eq] at h4
        obtain ⟨hm, h6, h7, h8⟩ := h4
        obtain ⟨h9, h10⟩ := okA_1 h6
        obtain rfl := callA_eq e
        subst hm
        cases t with
        | Tuple elts kk tpos => exact js_loopItems q.o.gd q.po h9 h10 (chkP_ok q.o h8) (chkTg_ok q.o h2) (chkSs_ok body c _ h3 X Wx q)
        | _ => cases h7
      · cases h4
    · cases h
  | .loopD tg (.e a) body, c, x, h, X, Wx, q => by
    simp only [chkS] at h
    split at h
    · simp only [Bool.and_false] at h; cases h
    · cases h
  | .loopD tg (.enum a) body, c, x, h, X, Wx, q => by
    simp only [chkS] at h
    split at h
    · simp only [Bool.and_false] at h; cases h
    · cases h
  | .loopD tg (.r1 a) body, c, x, h, X, Wx, q => by
    simp only [chkS] at h
    split at h
    · simp only [Bool.and_false] at h; cases h
    · cases h
  | .loopD tg (.r2 a b) body, c, x, h, X, Wx, q => by
    simp only [chkS] at h
    split at h
    · simp only [Bool.and_false] at h; cases h
    · cases h
  | .ex e, c, x, h, X, Wx, q => by
    simp only [chkS] at h
    split at h
    · rw [Bool.and_eq_true] at h
      exact js_ex h.1 (chkE_ok e false c _ h.2 X Wx q.o q.tk)
    · cases h
  | .app o e, c, x, h, X, Wx, q => by
    simp only [chkS] at h
    split at h
    · split at h
      · rename_i e'
        simp only [Bool.and_eq_true, decide_eq_true_eq] at h
        obtain ⟨h1, h2, h3, h4, h5⟩ := h
        obtain rfl := callA_eq e'
        subst h1
        exact js_app (okA_1 h2).1 h3 (okA_1 h2).2 (chkE_ok o false c _ h4 X Wx q.o q.tk) (chkE_ok e false c _ h5 X Wx q.o q.tk)
      · cases h
    · cases h
  | .extnd o e, c, x, h, X, Wx, q => by
    simp only [chkS] at h
    split at h
    · split at h
      · rename_i e'
        simp only [Bool.and_eq_true, decide_eq_true_eq] at h
        obtain ⟨h1, h2, h3, h4, h5⟩ := h
        obtain rfl := callA_eq e'
        subst h1
        exact js_extnd (okA_1 h2).1 h3 (okA_1 h2).2 (chkE_ok o false c _ h4 X Wx q.o q.tk) (chkE_ok e false c _ h5 X Wx q.o q.tk)
      · cases h
    · cases h
  | .setd o kk e, c, x, h, X, Wx, q => by
    simp only [chkS] at h
    split at h
    · split at h
      · rename_i e'
        simp only [Bool.and_eq_true, decide_eq_true_eq] at h
        obtain ⟨h1, h2, h3, h4, h5, h6, h7⟩ := h
        obtain rfl := callA_eq e'
        subst h1
        exact js_setd q.o.gd (okA_1 h2).1 h3 h4 (okA_1 h2).2 (chkE_ok o false c _ h5 X Wx q.o q.tk) (chkE_ok kk false c _ h6 X Wx q.o q.tk) (chkE_ok e false c _ h7 X Wx q.o q.tk)
      · cases h
    · cases h
  | .put o kk e, c, x, h, X, Wx, q => by
    simp only [chkS] at h
    split at h
    · simp only [Bool.and_eq_true] at h
      exact js_put q.o.gd h.1 (chkE_ok o false c _ h.2.1 X Wx q.o q.tk) (chkE_ok kk false c _ h.2.2.1 X Wx q.o q.tk) (chkE_ok e false c _ h.2.2.2 X Wx q.o q.tk) sub_sw sub_st
    · cases h
  | .fput o f e, c, x, h, X, Wx, q => by
    simp only [chkS] at h
    split at h
    · simp only [Bool.and_eq_true, decide_eq_true_eq] at h
      obtain ⟨h1, h2, h3, h4⟩ := h
      subst h1
      exact js_fput q.o.gf h2 (chkE_ok o false c _ h3 X Wx q.o q.tk) (chkE_ok e false c _ h4 X Wx q.o q.tk)
    · cases h
  | .fnew o f e, c, x, h, X, Wx, q => by
    simp only [chkS] at h
    split at h
    · split at h
      · simp only [Bool.and_eq_true, decide_eq_true_eq] at h
        obtain ⟨h1, h2, h3⟩ := h
        subst h1
        have ja := fun Wx' => var_je (Wx := Wx') q.o h2
        split at h3
        · exact js_fnewL q.o.gf ja
        · exact js_fnewK q.o.gf ja
        · cases h3
      · cases h
    · cases h
  | .raise cc es, c, x, h, X, Wx, q => by
    simp only [chkS] at h
    split at h
    · simp only [Bool.and_eq_true, decide_eq_true_eq] at h
      obtain ⟨h1, h2, h3, h4, h5⟩ := h
      subst h1
      obtain ⟨e1, e2, e3, e4⟩ := q.o.bs.exc _ (Tb.has_mem h5)
      exact js_raise0 q.o.gd q.tk ⟨e1, e2, raises_own e3 e4, q.o.bs.glo _ (Tb.has_mem h4)⟩ (q.o.gl h2) (noD_1 h3).1
    · cases h
  | .try_ xs body hs, c, x, h, X, Wx, q => by
    simp only [chkS] at h
    split at h
    · rw [Bool.and_eq_true] at h
      exact js_try q.o.gd q.hst q.hf q.tk (chkHs_ok q.o h.1) fun W' pn xe t p => chkSs_ok body c _ h.2 _ W' (q.tr t p)
    · cases h
  | .pass, c, x, h, X, Wx, q => by
    simp only [chkS] at h
    split at h
    · exact js_pass
    · cases h
  | .dead, c, x, h, X, Wx, q => js_dead
theorem chkSs_ok : ∀ (s : Ss) (c : SX) (xs : List Stmt), chkSs T s c xs = true → ∀ (X : Cx) (Wx : WX), OkS T k cl c X Wx → JSs (gOf X.K T) X Wx cl n0 s xs
  | .nil, c, xs, h, X, Wx, q => by
    cases xs with
    | nil => exact jss_nil
    | cons => simp only [chkSs] at h; cases h
  | .cons s ss, c, xs, h, X, Wx, q => by
    simp only [chkSs] at h
    split at h
    · rw [Bool.and_eq_true] at h
      exact jss_cons (chkS_ok s c _ h.1 X Wx q) (chkSs_ok ss c _ h.2 X Wx q)
    · cases h
end
end
end Bf

set_option Elab.async false
set_option linter.all false
set_option maxHeartbeats 1000000
set_option maxRecDepth 10000
/-! Plain parameters. -/
namespace Bf
open PySem PySem.Spec PyProof.Rows L2
theorem zip_look {ps : List PySem.Str} : ∀ {us : List Value}, us.length = ps.length → ∀ n ∈ ps, ((ps.zip us).lookup n).isNone = false := by
  induction ps with
  | nil => intro us _ n hn; cases hn
  | cons p ps ih =>
    intro us hl n hn
    cases us with
    | nil => simp at hl
    | cons u us =>
      rw [List.zip_cons_cons, List.lookup_cons]
      cases e : n == p with
      | true => rfl
      | false =>
        refine ih (by simpa using hl) n ?_
        rcases List.mem_cons.mp hn with z | z
        · rw [z, beq_self_eq_true] at e; cases e
        · exact z
theorem zip_fm {ps : List PySem.Str} (nd : ps.Nodup) : ∀ {us : List Value}, us.length = ps.length → ps.filterMap (fun n => ((ps.zip us).lookup n).map (n, ·)) = ps.zip us := by
  intro us hl
  have gen : ∀ (qs : List PySem.Str) (vs : List Value), vs.length = qs.length → qs.Nodup → (∀ x ∈ qs.zip vs, (ps.zip us).lookup x.1 = some x.2) → qs.filterMap (fun n => ((ps.zip us).lookup n).map (n, ·)) = qs.zip vs := by
    intro qs
    induction qs with
    | nil => intro vs _ _ _; cases vs <;> rfl
    | cons q qs ih =>
      intro vs hl2 nd2 h
      cases vs with
      | nil => simp at hl2
      | cons v vs =>
        rw [List.zip_cons_cons] at h ⊢
        rw [List.filterMap_cons, h (q, v) List.mem_cons_self]
        simp only [Option.map_some]
        rw [ih vs (by simpa using hl2) (List.nodup_cons.mp nd2).2 fun x hx => h x (List.mem_cons_of_mem _ hx)]
  refine gen ps us hl nd fun x hx => ?_
  clear gen
  induction ps generalizing us with
  | nil => cases us <;> cases hx
  | cons p ps ih =>
    cases us with
    | nil => cases hx
    | cons u us =>
      rw [List.zip_cons_cons] at hx ⊢
      rw [List.lookup_cons]
      have nd' := List.nodup_cons.mp nd
      rcases List.mem_cons.mp hx with e | hx
      · subst e; rw [beq_self_eq_true]
      · have hp : x.1 ∈ ps := (List.of_mem_zip (a := x.1) (b := x.2) hx).1
        have : (x.1 == p) = false := by
          rw [beq_eq_false_iff_ne]
          intro z; rw [z] at hp; exact nd'.1 hp
        rw [this]
        exact ih nd'.2 (by simpa using hl) hx
theorem bind_simple {ps : List PySem.Str} (nd : ps.Nodup) {x qual : PySem.Str} {params : Arguments} {body : List Stmt} {scope : Scope} {kV doc pm cdv ct : Value} {an : Option Addr} (h1 : params.posonlyargs = []) (h2 : params.args.map (·.arg) = ps) (h3 : params.vararg = none) (h4 : params.kwonlyargs = []) (h5 : params.kwarg = none) {us : List Value} (hl : us.length = ps.length) :
    bindArgs (PySem.W.fnOf x qual params body scope .none kV doc pm an cdv ct) ⟨us, []⟩ = pure (ps.zip us) := by
  obtain ⟨po, as, va, ko, kd, ka, df⟩ := params
  simp only at h1 h2 h3 h4 h5
  subst h1 h3 h4 h5
  have e0 : seqItems? Value.none = pure none := rfl
  have hm : (ps.filter fun n => ((ps.zip us).lookup n).isNone) = [] := by
    rw [List.filter_eq_nil_iff]
    intro n hn h
    rw [zip_look hl n hn] at h
    cases h
  unfold bindArgs
  simp only [PySem.W.fnOf, List.map_nil, List.nil_append, h2, List.forIn_nil, e0, pure_bind, Option.getD_none, List.length_nil, Nat.sub_zero, List.drop_zero, List.take_length, List.drop_length, List.zip_nil_right, List.append_nil, hm, List.isEmpty_nil]
  have hg : ¬ (decide (us.length > ps.length) && (none : Option Arg).isNone) = true := by simp [hl]
  rw [if_neg hg]
  simp only [List.drop_nil, List.length_nil, Nat.sub_zero, List.take_length, List.drop_length, List.zip_nil_right, hm, List.isEmpty_nil, Bool.not_true, Bool.false_eq_true, if_false, List.forIn_nil, pure_bind, zip_fm nd hl]
end Bf

set_option Elab.async false
set_option linter.all false
set_option maxHeartbeats 1000000
set_option maxRecDepth 10000
/-! All defs of a text keep their promises. -/
namespace Bf
open PySem PySem.Spec PyProof.Rows L2
def parB (sc : Scope) (x : PySem.Str) : Bool := match sc.names.lookup x with | some .local => true | some .cell => true | _ => false
def chkRow (T : Tb) (r : Row) : Bool :=
  (match r.d.scope.kind with | .function => true | _ => false) && (!r.d.scope.isCoroutine && (!r.d.scope.isGenerator && (decide r.N.Nodup && (decide (r.N.take r.ps.length = r.ps) && (r.ps.all (parB r.d.scope) && ((r.d.scope.names.all fun y => match y.2 with | .free => false | _ => true) &&
  (decide (r.ps.length = r.f.np) && (decide (r.N.length = r.f.ns) && (decide (r.f.np ≤ r.f.ns) && (decide r.ps.Nodup && (r.d.params.posonlyargs.isEmpty && (decide (r.d.params.args.map (·.arg) = r.ps) && (r.d.params.vararg.isNone && (r.d.params.kwonlyargs.isEmpty && (r.d.params.kwarg.isNone &&
  (r.d.dfl.isEmpty && chkSs T r.f.body ⟨r.N, r.d.scope, none⟩ r.d.body))))))))))))))))
theorem room0 {k : Nat} {A : Around} (r : Room k A) : Room k A := r
section
variable {T : Tb} {P : Program} {w : World} {K : PySem.W.Frag} {mg : PySem.Str → Option Value} {h : Heap}
theorem scope_ok {r : Row} (hc : chkRow T r = true) : FnScope r.N r.ps r.d.scope ∧ r.ps.length = r.f.np ∧ r.N.length = r.f.ns ∧ r.f.np ≤ r.f.ns ∧ r.ps.Nodup ∧ r.d.params.posonlyargs = [] ∧ r.d.params.args.map (·.arg) = r.ps ∧ r.d.params.vararg = none ∧ r.d.params.kwonlyargs = [] ∧ r.d.params.kwarg = none ∧ r.d.dfl = [] ∧ chkSs T r.f.body ⟨r.N, r.d.scope, none⟩ r.d.body = true := by
  unfold chkRow at hc
  rw [Bool.and_eq_true, Bool.and_eq_true, Bool.and_eq_true, Bool.and_eq_true, Bool.and_eq_true, Bool.and_eq_true, Bool.and_eq_true, Bool.and_eq_true, Bool.and_eq_true, Bool.and_eq_true, Bool.and_eq_true, Bool.and_eq_true, Bool.and_eq_true, Bool.and_eq_true, Bool.and_eq_true, Bool.and_eq_true, Bool.and_eq_true] at hc
  obtain ⟨a1, a2, a3, a4, a5, a6, a7, a8, a9, a10, a11, a12, a13, a14, a15, a16, a17, a18⟩ := hc
  refine ⟨⟨?_, by simpa using a2, by simpa using a3, of_decide_eq_true a4, of_decide_eq_true a5, fun x hx => ?_, fun y hy => ?_⟩, of_decide_eq_true a8, of_decide_eq_true a9, of_decide_eq_true a10, of_decide_eq_true a11, List.isEmpty_iff.mp a12, of_decide_eq_true a13, Option.isNone_iff_eq_none.mp a14, List.isEmpty_iff.mp a15, Option.isNone_iff_eq_none.mp a16, List.isEmpty_iff.mp a17, a18⟩
  · split at a1
    · assumption
    · cases a1
  · have := List.all_eq_true.mp a6 x hx
    unfold parB at this
    split at this
    · rename_i e; exact .inl e
    · rename_i e; exact .inr e
    · cases this
  · have := List.all_eq_true.mp a7 y hy
    intro z
    rw [z] at this; cases this
theorem bs_ok (hT : (T.rows.all (chkRow T)) = true) (c : He.SaysD T.fa (T.rows.map (·.d)) K) (KX : K.In h) (G : h.Ns mainGlobals mg) (base : Heap) : ∀ k, Bs T P w K mg base (2 * k) (callF T.tb k) := by
  have fact : ∀ f, f ∈ T.fa → f.ok K = true := fun f hf => by
    obtain ⟨i, hi⟩ := List.mem_iff_getElem?.mp hf
    exact c.fact i hi
  have fnD : ∀ (f : Nat) (r : Row), T.at_ f = some r → ∃ fd, FunD K r.d.name r.d.qual r.d.params r.d.body r.d.scope (r.d.dvs K) (r.d.kws K) (He.fAd K r.d.at_) fd := fun f r hr => (let ⟨i, hi⟩ := List.mem_iff_getElem?.mp (Tb.at_mem hr); c.def_ i (by rw [List.getElem?_map, hi]; rfl))
  have row : ∀ (f : Nat) (r : Row), T.at_ f = some r → chkRow T r = true := fun f r hr => List.all_eq_true.mp hT r (Tb.at_mem hr)
  have bnd : ∀ (f : Nat) (r : Row) (fd : FuncData), T.at_ f = some r → FunD K r.d.name r.d.qual r.d.params r.d.body r.d.scope (r.d.dvs K) (r.d.kws K) (He.fAd K r.d.at_) fd → Binds K fd r.ps [] := fun f r fd hr F => by
    obtain ⟨S, b1, b2, b3, b4, b5, b6, b7, b8, b9, b10, b11⟩ := scope_ok (row f r hr)
    have ed : r.d.dvs K = [] := by unfold He.DefD.dvs; rw [b10]; rfl
    rw [ed] at F
    exact F.bindsN fun kV doc pm an cdv ct us hl => bind_simple b4 b5 b6 b7 b8 b9 hl
  have mk : ∀ {k : Nat} {cl : Nat → List W → Mem → Rs W}, (∀ f r, T.at_ f = some r → r.d.kwd.isEmpty = true → r.d.dfl.isEmpty = true → ∃ fd, FnOk P w K mg base (L2.CX P w) k (He.fAd K r.d.at_) fd r.ps (spF (gOf K T) r.f.init r.f.np (cl f)) ∧ Binds K fd r.ps []) →
      (∀ f r ws M, T.at_ f = some r → cl f ws M ≠ .no → ws.length = r.f.np) → Bs T P w K mg base k cl := fun h1 h2 =>
    { glo := fun x hx => He.glo_ok KX G (fact _ hx)
      keep := fun x hx => He.keep_ok (fact _ hx)
      free := fun x hx => He.free_ok KX G (fact _ hx)
      int_ := fun x i hx => He.int_ok KX G (fact _ hx)
      str_ := fun x z hx => He.str_ok KX G (fact _ hx)
      cls := fun x hx => He.cls_ok (fact _ hx)
      noat := fun x f hx => He.noat_ok (fact _ hx)
      meth := fun x m hx => He.meth_ok (fact _ hx)
      mkr := fun x hx => He.mkr_ok (fact _ hx)
      exc := fun x hx => He.exc_ok (fact _ hx)
      exm := fun x y b hx => He.exm_ok (fact _ hx)
      fn := h1
      len := h2 }
  intro k
  induction k with
  | zero =>
    refine mk (fun f r hr hk hd => ?_) fun f r ws M hr hn => absurd rfl hn
    obtain ⟨fd, F⟩ := fnD f r hr
    refine ⟨fd, ⟨fun vs H Q E hh => ?_, fun A outer s H args us vs Q E _ _ _ _ hh => ?_⟩, bnd f r fd hr F⟩
    · obtain ⟨_, _, _, _, _, _, _, z⟩ := hh; exact z.elim
    · obtain ⟨_, _, _, _, _, _, _, z⟩ := hh; exact z.elim
  | succ k ih =>
    have ecl : ∀ (f : Nat) (r : Row), T.at_ f = some r → callF T.tb (k + 1) f = runF (callF T.tb k) r.f := fun f r hr => by
      funext ws M
      show (match T.tb f with
        | some d => runF (callF T.tb k) d ws M
        | none => .no) = _
      unfold Tb.tb; rw [hr]; rfl
    refine mk (fun f r hr hk hd => ?_) fun f r ws M hr hn => ?_
    · obtain ⟨fd, F⟩ := fnD f r hr
      refine ⟨fd, ?_, bnd f r fd hr F⟩
      rw [ecl f r hr]
      obtain ⟨S, b1, b2, b3, b4, b5, b6, b7, b8, b9, b10, b11⟩ := scope_ok (row f r hr)
      refine fn_okF (k := 2 * k + 1) F S b1 b2 b3 fun cdv A outer s H E n0 hroom => ?_
      refine chkSs_ok (k := 2 * k) r.f.body ⟨r.N, r.d.scope, none⟩ r.d.body b11 (cxOf (L2.CX P w) P w K mg base r.N r.d.qual r.d.scope (He.fAd K r.d.at_) cdv A outer s H E) _ ⟨⟨rfl, rfl, fun _ _ => rfl, S.nd, rfl, hroom, ih⟩, rfl, ?_, ?_, ?_⟩
      · exact rfl
      · exact passes_of rfl
      · exact takes_of rfl rfl rfl rfl
    · rw [ecl f r hr] at hn
      unfold runF at hn
      by_cases h : ws.length = r.f.np
      · exact h
      · rw [if_neg h] at hn; exact absurd rfl hn
/-- the law's own def -/
theorem law_ok (hT : (T.rows.all (chkRow T)) = true) (c : He.SaysD T.fa (T.rows.map (·.d)) K) (KX : K.In h) (G : h.Ns mainGlobals mg) {f k : Nat} {r : Row} (hr : T.at_ f = some r) {x : PySem.Str} (hps : r.ps = [x]) (hi : r.f.init = false)
    (hlaw : ∀ ns : List Int, ns.length ≤ 63 → ∃ M, callF T.tb (k + 1) f [.v (.scr ns)] [] = .ok (.v (.bl true)) M) :
    ∃ fd : FuncData, (∀ (s : Shared) (u : Value), BindsTo s fd ⟨[u], []⟩ [(x, u)]) ∧
      (∀ (H : Hp) (a : Addr) (ns : List Int), ns.length ≤ 63 → SqL K H a (ns.map V.int) → spF (gOf K T) false 1 (callF T.tb (k + 1) f) [.ref a] H (fun v _ => v = .bl true) fun _ _ _ => False) ∧
      ∀ base : Heap, FnOk P w K mg base (L2.CX P w) (2 * k + 2) (He.fAd K r.d.at_) fd [x] (spF (gOf K T) false 1 (callF T.tb (k + 1) f)) := by
  obtain ⟨fd, F⟩ : ∃ fd, FunD K r.d.name r.d.qual r.d.params r.d.body r.d.scope (r.d.dvs K) (r.d.kws K) (He.fAd K r.d.at_) fd := (let ⟨i, hi⟩ := List.mem_iff_getElem?.mp (Tb.at_mem hr); c.def_ i (by rw [List.getElem?_map, hi]; rfl))
  obtain ⟨S, b1, b2, b3, b4, b5, b6, b7, b8, b9, b10, b11⟩ := scope_ok (List.all_eq_true.mp hT r (Tb.at_mem hr))
  have hnp : r.f.np = 1 := by rw [← b1, hps]; rfl
  have ed : r.d.dvs K = [] := by unfold He.DefD.dvs; rw [b10]; rfl
  have ecl : callF T.tb (k + 1) f = runF (callF T.tb k) r.f := by
    funext ws M
    show (match T.tb f with
      | some d => runF (callF T.tb k) d ws M
      | none => .no) = _
    unfold Tb.tb; rw [hr]; rfl
  refine ⟨fd, fun s u => ?_, fun H a ns hl hq => ?_, fun base => ?_⟩
  · rw [ed] at F
    have := FunD.bindsA (ps := [x]) F (fun kV doc pm an cdv ct us hl => bind_simple (by rw [← hps]; exact b4) b5 (by rw [b6, hps]) b7 b8 b9 hl) s [u] rfl
    exact this
  · obtain ⟨M', hM⟩ := hlaw ns hl
    refine ⟨rfl, [], [], [], [.v (.scr ns)], ⟨rfl, List.nodup_nil, fun i ca d h1 => (by simp at h1), fun b hb => (by cases hb), fun b hb => (by cases hb)⟩, .cons (.v ?_) .nil, ?_⟩
    · rcases hq with hq | hq
      · exact .scr hq (by intro z; cases z)
      · exact .scrK hq
    · rw [hM]
      intro cs' v H' _ _ _ rs
      cases rs with
      | v rv => cases rv; rfl
  · have h := fn_okF (g := gOf K T) (P := P) (w := w) (mg := mg) (base := base) (k := 2 * k + 1) (cl := callF T.tb k) F S b1 b2 b3 fun cdv A outer s H E n0 hroom =>
      chkSs_ok (k := 2 * k) r.f.body ⟨r.N, r.d.scope, none⟩ r.d.body b11 (cxOf (L2.CX P w) P w K mg base r.N r.d.qual r.d.scope (He.fAd K r.d.at_) cdv A outer s H E) _ ⟨⟨rfl, rfl, fun _ _ => rfl, S.nd, rfl, hroom, bs_ok hT c KX G base k⟩, rfl, rfl, passes_of rfl, takes_of rfl rfl rfl rfl⟩
    rw [ecl, ← hps]
    rw [hi, hnp] at h
    exact h
end
end Bf

set_option Elab.async false
set_option linter.all false
set_option maxHeartbeats 1000000
set_option maxRecDepth 10000
/-! The law's def lets no exception out. -/
namespace Bf
open PySem PySem.Spec PyProof.Rows L2
def noXS (sp : Sp) : Sp := fun vs H Q _ => sp vs H Q fun _ _ _ => False
theorem fn_noX {P : Program} {w : World} {K : PySem.W.Frag} {mg : PySem.Str → Option Value} {base : Heap} {k : Nat} {f : Addr} {fd : FuncData} {ps : List PySem.Str} {sp : Sp} (F : FnOk P w K mg base (L2.CX P w) k f fd ps sp) : FnOk P w K mg base CX0 k f fd ps (noXS sp) := by
  refine ⟨fun vs H Q E h => F.len _ _ _ _ h, fun A outer s H args us vs Q E hr he hb hv hs => ?_⟩
  refine codeAny_mono (F.run A outer s H args us vs Q (fun _ _ _ => False) hr he hb hv hs) fun r s' hq => ?_
  cases r with
  | error e =>
    obtain ⟨_, _, _, _, _, _, _, _, _, _, _, _, z⟩ := hq
    exact z.elim
  | ok fl => cases fl <;> exact hq
theorem law_F {T : Tb} {P : Program} {w : World} {K : PySem.W.Frag} {mg : PySem.Str → Option Value} {h : Heap} (hT : (T.rows.all (chkRow T)) = true) (c : He.SaysD T.fa (T.rows.map (·.d)) K) (KX : K.In h) (G : h.Ns mainGlobals mg) {f k : Nat} {r : Row} (hr : T.at_ f = some r) {x : PySem.Str} (hps : r.ps = [x]) (hi : r.f.init = false)
    (hlaw : ∀ ns : List Int, ns.length ≤ 63 → ∃ M, callF T.tb (k + 1) f [.v (.scr ns)] [] = .ok (.v (.bl true)) M) {fa : Addr} (hfa : He.fAd K r.d.at_ = fa) :
    ∃ (K : PySem.W.Frag) (fd : FuncData) (sp : Sp), K.In h ∧ (∀ (s : Shared) (u : Value), BindsTo s fd ⟨[u], []⟩ [(x, u)]) ∧
        (∀ (H : Hp) (a : Addr) (ns : List Int), ns.length ≤ 63 → Only H → SqL K H a (ns.map V.int) → sp [.ref a] H (fun v _ => v = .bl true) fun _ _ _ => False) ∧
        ∀ base : Heap, K.In base → base.Ns mainGlobals mg → FnOk P w K mg base CX0 (2 * k + 2) fa fd [x] sp := by
  obtain ⟨fd, h1, h2, h3⟩ := law_ok (P := P) (w := w) hT c KX G hr hps hi hlaw
  subst hfa
  exact ⟨K, fd, noXS (spF (gOf K T) false 1 (callF T.tb (k + 1) f)), KX, h1, fun H a ns hl _ hq => h2 H a ns hl hq, fun base _ _ => fn_noX (h3 base)⟩
end Bf

set_option Elab.async false
set_option linter.all false
namespace Bf
open PySem
/-! is_between -/
def f0 : FD := ⟨false, 3, 3, (.cons (.ret (.and (.bi (.isi .int) (.cons (.var 0) .nil)) (.and (.not (.bi (.isi .bool) (.cons (.var 0) .nil))) (.chain .le .le (.var 1) (.var 0) (.var 2)))))
  .nil)⟩
/-! is_one_of -/
def f1 : FD := ⟨false, 2, 2, (.cons (.ret (.and (.bi (.isi .str) (.cons (.var 0) .nil)) (.b2 .inn (.var 0) (.var 1))))
  .nil)⟩
/-! is_length -/
def f2 : FD := ⟨false, 1, 2, (.cons (.ite (.or (.not (.bi (.isi .tuple) (.cons (.var 0) .nil))) (.b2 .ne (.bi .len (.cons (.var 0) .nil)) (.lit (.int 2)))) (.cons (.ret (.lit (.bl false)))
  .nil) .nil)
  (.cons (.ret (.and (.bi .all (.cons (.lc (.call 0 (.cons (.var 1) (.cons (.lit (.int 0)) (.cons (.glo "MOST_OF_SIZE" (.int 2)) .nil)))) (.v 1) (.e (.var 0)) .no) .nil)) (.b2 .ne (.var 0) (.tup (.cons (.lit (.int 0)) (.cons (.lit (.int 0)) .nil))))))
  .nil))⟩
/-! is_name -/
def f3 : FD := ⟨false, 2, 4, (.cons (.ite (.or (.not (.bi (.isi .tuple) (.cons (.var 0) .nil))) (.or (.b2 .eq (.var 0) (.tup .nil)) (.not (.bi (.isi .str) (.cons (.idx (.var 0) (.lit (.int 0))) .nil))))) (.cons (.ret (.lit (.bl false)))
  .nil) .nil)
  (.cons (.par 2 3 (.idx (.var 0) (.lit (.int 0))) (.sl (.var 0) (.so (.lit (.int 1))) .no))
  (.cons (.ite (.b2 .eq (.var 2) (.glo "START" (.str "start"))) (.cons (.ret (.b2 .eq (.var 3) (.tup .nil)))
  .nil) .nil)
  (.cons (.ite (.b2 .ne (.bi .len (.cons (.var 3) .nil)) (.lit (.int 2))) (.cons (.ret (.lit (.bl false)))
  .nil) .nil)
  (.cons (.ite (.b2 .eq (.var 2) (.lit (.str "count"))) (.cons (.ret (.and (.call 1 (.cons (.idx (.var 3) (.lit (.int 0))) (.cons (.tup (.cons (.glo "LEFT" (.str "left")) (.cons (.glo "RIGHT" (.str "right")) .nil))) .nil))) (.call 0 (.cons (.idx (.var 3) (.lit (.int 1))) (.cons (.lit (.int 0)) (.cons (.glo "MOST_COUNT" (.int 3)) .nil))))))
  .nil) .nil)
  (.cons (.ite (.not (.call 0 (.cons (.idx (.var 3) (.lit (.int 0))) (.cons (.lit (.int 0)) (.cons (.b2 .sub (.var 1) (.lit (.int 1))) .nil))))) (.cons (.ret (.lit (.bl false)))
  .nil) .nil)
  (.cons (.ret (.ite (.b2 .eq (.var 2) (.lit (.str "end"))) (.call 1 (.cons (.idx (.var 3) (.lit (.int 1))) (.cons (.tup (.cons (.glo "NEAR" (.str "near")) (.cons (.glo "FAR" (.str "far")) .nil))) .nil))) (.and (.b2 .eq (.var 2) (.lit (.str "beside"))) (.call 1 (.cons (.idx (.var 3) (.lit (.int 1))) (.cons (.tup (.cons (.glo "LEFT" (.str "left")) (.cons (.glo "RIGHT" (.str "right")) .nil))) .nil))))))
  .nil)))))))⟩
/-! is_step -/
def f4 : FD := ⟨false, 2, 2, (.cons (.ite (.or (.not (.bi (.isi .tuple) (.cons (.var 0) .nil))) (.or (.b2 .ne (.bi .len (.cons (.var 0) .nil)) (.lit (.int 4))) (.not (.call 1 (.cons (.idx (.var 0) (.lit (.int 0))) (.cons (.tup (.cons (.glo "ADD" (.str "add")) (.cons (.glo "CUT" (.str "cut")) .nil))) .nil)))))) (.cons (.ret (.lit (.bl false)))
  .nil) .nil)
  (.cons (.ret (.and (.call 3 (.cons (.idx (.var 0) (.lit (.int 1))) (.cons (.var 1) .nil))) (.and (.call 1 (.cons (.idx (.var 0) (.lit (.int 2))) (.cons (.tup (.cons (.glo "LEFT" (.str "left")) (.cons (.glo "RIGHT" (.str "right")) .nil))) .nil))) (.call 2 (.cons (.idx (.var 0) (.lit (.int 3))) .nil)))))
  .nil))⟩
/-! is_fact -/
def f5 : FD := ⟨false, 1, 1, (.cons (.ite (.or (.not (.bi (.isi .tuple) (.cons (.var 0) .nil))) (.or (.b2 .ne (.bi .len (.cons (.var 0) .nil)) (.lit (.int 3))) (.not (.call 1 (.cons (.idx (.var 0) (.lit (.int 0))) (.cons (.tup (.cons (.glo "LESS" (.str "less")) (.cons (.glo "SAME" (.str "same")) .nil))) .nil)))))) (.cons (.ret (.lit (.bl false)))
  .nil) .nil)
  (.cons (.ret (.and (.call 2 (.cons (.idx (.var 0) (.lit (.int 1))) .nil)) (.call 2 (.cons (.idx (.var 0) (.lit (.int 2))) .nil))))
  .nil))⟩
/-! Plan.__init__ -/
def f6_b0 : Ss := (.cons (.ite (.not (.call 4 (.cons (.var 4) (.cons (.var 3) .nil)))) (.cons .dead
  .nil) .nil)
  .nil)
def f6 : FD := ⟨true, 3, 6, (.cons (.ite (.or (.not (.bi (.isi .tuple) (.cons (.var 1) .nil))) (.b2 .gt (.bi .len (.cons (.var 1) .nil)) (.glo "MOST_STEPS" (.int 5)))) (.cons .dead
  .nil) .nil)
  (.cons (.loop (.t [3, 4]) (.enum (.var 1)) f6_b0)
  (.cons (.ite (.or (.not (.bi (.isi .tuple) (.cons (.var 2) .nil))) (.or (.b2 .gt (.bi .len (.cons (.var 2) .nil)) (.glo "MOST_FACTS" (.int 2))) (.not (.bi .all (.cons (.lc (.call 5 (.cons (.var 5) .nil)) (.v 5) (.e (.var 2)) .no) .nil))))) (.cons (.raise 2 .nil)
  .nil) .nil)
  (.cons (.fput (.var 0) .osteps (.var 1))
  (.cons (.fput (.var 0) .ofacts (.var 2))
  .nil)))))⟩
/-! long_at -/
def f7 : FD := ⟨false, 2, 2, (.cons (.ret (.b2 .add (.b2 .mul (.idx (.var 0) (.lit (.int 0))) (.idx (.var 1) (.lit (.int 0)))) (.b2 .mul (.idx (.var 0) (.lit (.int 1))) (.idx (.var 1) (.lit (.int 1))))))
  .nil)⟩
/-! keeps -/
def f8_b0 : Ss := (.cons (.par 5 6 (.call 7 (.cons (.var 3) (.cons (.var 1) .nil))) (.call 7 (.cons (.var 4) (.cons (.var 1) .nil))))
  (.cons (.ite (.or (.b2 .gt (.var 5) (.var 6)) (.or (.and (.b2 .eq (.var 2) (.glo "LESS" (.str "less"))) (.b2 .eq (.var 5) (.var 6))) (.and (.b2 .eq (.var 2) (.glo "SAME" (.str "same"))) (.b2 .lt (.var 5) (.var 6))))) (.cons (.ret (.lit (.bl false)))
  .nil) .nil)
  .nil))
def f8 : FD := ⟨false, 2, 7, (.cons (.loop (.t [2, 3, 4]) (.e (.var 0)) f8_b0)
  (.cons (.ret (.lit (.bl true)))
  .nil))⟩
/-! is_sizes -/
def f9 : FD := ⟨false, 2, 3, (.cons (.ite (.or (.not (.bi (.isi .tuple) (.cons (.var 1) .nil))) (.b2 .ne (.bi .len (.cons (.var 1) .nil)) (.lit (.int 2)))) (.cons (.ret (.lit (.bl false)))
  .nil) .nil)
  (.cons (.ite (.not (.bi .all (.cons (.lc (.and (.bi (.isi .int) (.cons (.var 2) .nil)) (.and (.not (.bi (.isi .bool) (.cons (.var 2) .nil))) (.b2 .gt (.var 2) (.lit (.int 0))))) (.v 2) (.e (.var 1)) .no) .nil))) (.cons (.ret (.lit (.bl false)))
  .nil) .nil)
  (.cons (.ret (.call 8 (.cons (.fld (.var 0) .ofacts) (.cons (.var 1) .nil))))
  .nil)))⟩
/-! need_sizes -/
def f10 : FD := ⟨false, 2, 2, (.cons (.ite (.not (.call 9 (.cons (.var 0) (.cons (.var 1) .nil)))) (.cons (.raise 3 .nil)
  .nil) .nil)
  .nil)⟩
/-! added -/
def f11_b0 : Ss := (.cons (.ite (.or (.b2 .lt (.var 5) (.var 1)) (.b2 .gt (.var 4) (.var 2))) (.cons (.app (.var 3) (.tup (.cons (.var 4) (.cons (.var 5) .nil))))
  .nil) (.cons (.par 1 2 (.bi .min (.cons (.var 1) (.cons (.var 4) .nil))) (.bi .max (.cons (.var 2) (.cons (.var 5) .nil))))
  .nil))
  .nil)
def f11 : FD := ⟨false, 3, 6, (.cons (.setC 3 (.lst .nil))
  (.cons (.loop (.t [4, 5]) (.e (.var 0)) f11_b0)
  (.cons (.ret (.bi .sorted (.cons (.lst (.star (.var 3) (.cons (.tup (.cons (.var 1) (.cons (.var 2) .nil))) .nil))) .nil)))
  .nil)))⟩
/-! taken -/
def f12_b0 : Ss := (.cons (.extnd (.var 3) (.lst (.cons (.tup (.cons (.var 4) (.cons (.bi .min (.cons (.var 5) (.cons (.var 1) .nil))) .nil))) (.cons (.tup (.cons (.bi .max (.cons (.var 4) (.cons (.var 2) .nil))) (.cons (.var 5) .nil))) .nil))))
  .nil)
def f12 : FD := ⟨false, 3, 6, (.cons (.setC 3 (.lst .nil))
  (.cons (.loop (.t [4, 5]) (.e (.var 0)) f12_b0)
  (.cons (.ret (.lc (.tup (.cons (.var 4) (.cons (.var 5) .nil))) (.t [4, 5]) (.e (.var 3)) (.so (.b2 .lt (.var 4) (.var 5)))))
  .nil)))⟩
/-! Run.__init__ -/
def f13_b0 : Ss := (.cons (.unp (.t [6, 7, 8, 9]) (.idx (.var 1) (.var 4)))
  (.cons (.set 5 (.mth 11 16 (.var 0) (.cons (.var 7) .nil)))
  (.cons (.put (.fld (.var 0) .holders) (.var 4) (.lc (.mth 11 15 (.var 0) (.cons (.var 10) .nil)) (.v 10) (.e (.mth 11 14 (.var 0) .nil)) .no))
  (.cons (.put (.fld (.var 0) .fmarks) (.var 4) (.lit .non))
  (.cons (.ite (.b2 .notN (.var 5) (.lit .non)) (.cons (.put (.fld (.var 0) .fmarks) (.var 4) (.ite (.b2 .eq (.var 7) (.tup (.cons (.glo "START" (.str "start")) .nil))) (.tup .nil) (.mth 11 15 (.var 0) (.cons (.var 5) .nil))))
  (.cons (.ex (.mth 11 17 (.var 0) (.cons (.var 4) (.cons (.var 6) (.cons (.var 5) (.cons (.b2 .mul (.call 7 (.cons (.var 9) (.cons (.var 2) .nil))) (.ite (.b2 .eq (.var 8) (.glo "RIGHT" (.str "right"))) (.lit (.int 1)) (.neg (.lit (.int 1))))) .nil))))))
  .nil)) .nil)
  .nil)))))
def f13 : FD := ⟨true, 4, 11, (.cons (.fput (.var 0) .shown (.lst .nil))
  (.cons (.fnew (.var 0) .bars .newK)
  (.cons (.fnew (.var 0) .fmarks .newK)
  (.cons (.fnew (.var 0) .holders .newK)
  (.cons (.loop (.v 4) (.e (.var 3)) f13_b0)
  .nil)))))⟩
/-! Run.faces -/
def f14 : FD := ⟨false, 1, 3, (.cons (.ret (.lc2 (.var 2) (.v 1) (.e (.fld (.var 0) .shown)) (.v 2) (.e (.var 1))))
  .nil)⟩
/-! Run.marks_at -/
def f15 : FD := ⟨false, 2, 5, (.cons (.setC 2 (.lc (.tup (.cons (.var 3) (.cons (.glo "NEAR" (.str "near")) .nil))) (.t [3, 4]) (.items (.fld (.var 0) .bars)) (.so (.b2 .eq (.idx (.var 4) (.lit (.int 0))) (.var 1)))))
  (.cons (.extnd (.var 2) (.lc (.tup (.cons (.var 3) (.cons (.glo "FAR" (.str "far")) .nil))) (.t [3, 4]) (.items (.fld (.var 0) .bars)) (.so (.b2 .eq (.idx (.var 4) (.lit (.int 1))) (.var 1)))))
  (.cons (.ret (.bi .tuple (.cons (.bi .sorted (.cons (.var 2) .nil)) .nil)))
  .nil)))⟩
/-! Run.place_of -/
def f16 : FD := ⟨false, 2, 8, (.cons (.ite (.b2 .eq (.var 1) (.tup (.cons (.glo "START" (.str "start")) .nil))) (.cons (.ret (.lit (.int 0)))
  .nil) .nil)
  (.cons (.set 2 (.mth 11 14 (.var 0) .nil))
  (.cons (.ite (.b2 .eq (.idx (.var 1) (.lit (.int 0))) (.lit (.str "count"))) (.cons (.set 3 (.ite (.b2 .eq (.idx (.var 1) (.lit (.int 1))) (.glo "LEFT" (.str "left"))) (.var 2) (.rev (.var 2))))
  (.cons (.ret (.ite (.b2 .lt (.idx (.var 1) (.lit (.int 2))) (.bi .len (.cons (.var 3) .nil))) (.idx (.var 3) (.idx (.var 1) (.lit (.int 2)))) (.lit .non)))
  .nil)) .nil)
  (.cons (.ite (.b2 .nin (.idx (.var 1) (.lit (.int 1))) (.fld (.var 0) .bars)) (.cons (.ret (.lit .non))
  .nil) .nil)
  (.cons (.unp (.t [4, 5]) (.idx (.fld (.var 0) .bars) (.idx (.var 1) (.lit (.int 1)))))
  (.cons (.ite (.b2 .eq (.idx (.var 1) (.lit (.int 0))) (.lit (.str "end"))) (.cons (.set 6 (.ite (.b2 .eq (.idx (.var 1) (.lit (.int 2))) (.glo "NEAR" (.str "near"))) (.var 4) (.var 5)))
  (.cons (.ret (.ite (.b2 .inn (.var 6) (.var 2)) (.var 6) (.lit .non)))
  .nil)) .nil)
  (.cons (.set 3 (.lc (.var 7) (.v 7) (.e (.var 2)) (.so (.ite (.b2 .eq (.idx (.var 1) (.lit (.int 2))) (.glo "LEFT" (.str "left"))) (.b2 .lt (.var 7) (.var 5)) (.b2 .gt (.var 7) (.var 5))))))
  (.cons (.ite (.b2 .eq (.var 3) (.lst .nil)) (.cons (.ret (.lit .non))
  .nil) .nil)
  (.cons (.ret (.ite (.b2 .eq (.idx (.var 1) (.lit (.int 2))) (.glo "LEFT" (.str "left"))) (.idx (.var 3) (.neg (.lit (.int 1)))) (.idx (.var 3) (.lit (.int 0)))))
  .nil)))))))))⟩
/-! Run.do -/
def f17 : FD := ⟨false, 5, 7, (.cons (.par 5 6 (.bi .min (.cons (.var 3) (.cons (.b2 .add (.var 3) (.var 4)) .nil))) (.bi .max (.cons (.var 3) (.cons (.b2 .add (.var 3) (.var 4)) .nil))))
  (.cons (.fput (.var 0) .shown (.ite (.b2 .eq (.var 2) (.glo "ADD" (.str "add"))) (.call 11 (.cons (.fld (.var 0) .shown) (.cons (.var 5) (.cons (.var 6) .nil)))) (.call 12 (.cons (.fld (.var 0) .shown) (.cons (.var 5) (.cons (.var 6) .nil))))))
  (.cons (.put (.fld (.var 0) .bars) (.var 1) (.tup (.cons (.var 3) (.cons (.b2 .add (.var 3) (.var 4)) .nil))))
  .nil)))⟩
/-! run_of -/
def f18 : FD := ⟨false, 2, 2, (.cons (.ret (.make 11 13 (.cons (.fld (.var 0) .osteps) (.cons (.var 1) (.cons (.bi .rng (.cons (.bi .len (.cons (.fld (.var 0) .osteps) .nil)) .nil)) .nil)))))
  .nil)⟩
/-! drawn -/
def f19 : FD := ⟨false, 2, 2, (.cons (.ex (.call 10 (.cons (.var 0) (.cons (.var 1) .nil))))
  (.cons (.ret (.fld (.call 18 (.cons (.var 0) (.cons (.var 1) .nil))) .shown))
  .nil))⟩
/-! done -/
def f20 : FD := ⟨false, 2, 4, (.cons (.ex (.call 10 (.cons (.var 0) (.cons (.var 1) .nil))))
  (.cons (.set 2 (.call 18 (.cons (.var 0) (.cons (.var 1) .nil))))
  (.cons (.ret (.lc (.b2 .inn (.var 3) (.fld (.var 2) .bars)) (.v 3) (.r1 (.bi .len (.cons (.fld (.var 0) .osteps) .nil))) .no))
  .nil)))⟩
/-! named_in -/
def f21 : FD := ⟨false, 2, 4, (.cons (.set 2 (.call 18 (.cons (.var 0) (.cons (.var 1) .nil))))
  (.cons (.ret (.lc (.idx (.fld (.var 2) .fmarks) (.var 3)) (.v 3) (.r1 (.bi .len (.cons (.fld (.var 0) .osteps) .nil))) .no))
  .nil))⟩
/-! named -/
def f22 : FD := ⟨false, 2, 2, (.cons (.ex (.call 10 (.cons (.var 0) (.cons (.var 1) .nil))))
  (.cons (.ret (.call 21 (.cons (.var 0) (.cons (.var 1) .nil))))
  .nil))⟩
/-! all_sizes -/
def f23 : FD := ⟨false, 2, 6, (.cons (.set 2 (.lc2 (.tup (.cons (.var 3) (.cons (.var 4) .nil))) (.v 3) (.r2 (.lit (.int 1)) (.b2 .add (.var 1) (.lit (.int 1)))) (.v 4) (.r2 (.lit (.int 1)) (.b2 .add (.var 1) (.lit (.int 1))))))
  (.cons (.ret (.bi .sortSum (.cons (.lc (.var 5) (.v 5) (.e (.var 2)) (.so (.call 8 (.cons (.fld (.var 0) .ofacts) (.cons (.var 5) .nil))))) .nil)))
  .nil))⟩
/-! is_same -/
def f24 : FD := ⟨false, 2, 4, (.cons (.ite (.or (.not (.bi (.isi .list) (.cons (.var 0) .nil))) (.b2 .ne (.var 0) (.var 1))) (.cons (.ret (.lit (.bl false)))
  .nil) .nil)
  (.cons (.ret (.bi .all (.cons (.lc2 (.not (.bi (.isi .bool) (.cons (.var 3) .nil))) (.v 2) (.e (.var 0)) (.v 3) (.e (.var 2))) .nil)))
  .nil))⟩
/-! fitting -/
def f25 : FD := ⟨false, 3, 4, (.cons (.ret (.lc (.var 3) (.v 3) (.e (.call 23 (.cons (.var 0) (.cons (.var 2) .nil)))) (.so (.call 24 (.cons (.var 1) (.cons (.fld (.call 18 (.cons (.var 0) (.cons (.var 3) .nil))) .shown) .nil))))))
  .nil)⟩
/-! enough -/
def f26 : FD := ⟨false, 1, 1, (.cons (.ret (.b2 .mul (.glo "EACH" (.int 4)) (.bi .max (.cons (.lit (.int 1)) (.cons (.var 0) .nil)))))
  .nil)⟩
/-! meanings -/
def f27_b0 : Ss := (.cons (.ite (.and (.b2 .notN (.var 4) (.lit .non)) (.b2 .ne (.var 4) (.tup .nil))) (.cons (.put (.var 2) (.var 3) (.idx (.var 4) (.lit (.int 0))))
  .nil) .nil)
  .nil)
def f27 : FD := ⟨false, 2, 5, (.cons (.setK 2)
  (.cons (.loop (.t [3, 4]) (.enum (.call 21 (.cons (.var 0) (.cons (.var 1) .nil)))) f27_b0)
  (.cons (.ret (.var 2))
  .nil)))⟩
/-! word_for -/
def f28 : FD := ⟨false, 3, 5, (.cons (.set 3 (.idx (.fld (.var 0) .fmarks) (.var 1)))
  (.cons (.ite (.b2 .isN (.var 3) (.lit .non)) (.cons (.ret (.lit (.str "none")))
  .nil) .nil)
  (.cons (.ite (.b2 .inn (.var 2) (.var 3)) (.cons (.ret (.lit .non))
  .nil) .nil)
  (.cons (.ret (.ite (.bi .any (.cons (.lc (.b2 .inn (.var 2) (.var 4)) (.v 4) (.e (.idx (.fld (.var 0) .holders) (.var 1))) .no) .nil)) (.lit (.str "other")) (.lit (.str "gone"))))
  .nil))))⟩
/-! first_strays -/
def f29_b0 : Ss := (.cons (.set 8 (.call 28 (.cons (.var 5) (.cons (.var 6) (.cons (.var 7) .nil)))))
  (.cons (.ite (.b2 .notN (.var 8) (.lit .non)) (.cons (.setd (.var 2) (.tup (.cons (.var 6) (.cons (.var 8) .nil))) (.var 4))
  .nil) .nil)
  .nil))
def f29_b1 : Ss := (.cons (.set 5 (.call 18 (.cons (.var 0) (.cons (.var 4) .nil))))
  (.cons (.loopD (.t [6, 7]) (.items (.var 3)) f29_b0)
  .nil))
def f29 : FD := ⟨false, 2, 9, (.cons (.setT 2)
  (.cons (.set 3 (.call 27 (.cons (.var 0) (.cons (.var 1) .nil))))
  (.cons (.loop (.v 4) (.e (.call 23 (.cons (.var 0) (.cons (.call 26 (.cons (.bi .len (.cons (.fld (.var 0) .osteps) .nil)) .nil)) .nil)))) f29_b1)
  (.cons (.ret (.var 2))
  .nil))))⟩
/-! strays -/
def f30 : FD := ⟨false, 2, 2, (.cons (.ex (.call 10 (.cons (.var 0) (.cons (.var 1) .nil))))
  (.cons (.ret (.bi .sorted (.cons (.bi .list (.cons (.call 29 (.cons (.var 0) (.cons (.var 1) .nil))) .nil)) .nil)))
  .nil))⟩
/-! is_stray -/
def f31 : FD := ⟨false, 1, 1, (.cons (.ite (.or (.not (.bi (.isi .tuple) (.cons (.var 0) .nil))) (.b2 .ne (.bi .len (.cons (.var 0) .nil)) (.lit (.int 2)))) (.cons (.ret (.lit (.bl false)))
  .nil) .nil)
  (.cons (.ret (.and (.bi (.isi .int) (.cons (.idx (.var 0) (.lit (.int 0))) .nil)) (.and (.not (.bi (.isi .bool) (.cons (.idx (.var 0) (.lit (.int 0))) .nil))) (.bi (.isi .str) (.cons (.idx (.var 0) (.lit (.int 1))) .nil)))))
  .nil))⟩
/-! least -/
def f32 : FD := ⟨false, 3, 3, (.cons (.ex (.call 10 (.cons (.var 0) (.cons (.var 1) .nil))))
  (.cons (.ret (.ite (.call 31 (.cons (.var 2) .nil)) (.get2 (.call 29 (.cons (.var 0) (.cons (.var 1) .nil))) (.var 2) (.lit .non)) (.lit .non)))
  .nil))⟩
/-! sets_of -/
def f33_b0 : Ss := (.cons (.extnd (.var 2) (.lc (.tup (.cons (.var 4) (.star (.var 5) .nil))) (.v 5) (.e (.call 33 (.cons (.sl (.var 0) (.so (.b2 .add (.var 3) (.lit (.int 1)))) .no) (.cons (.b2 .sub (.var 1) (.lit (.int 1))) .nil)))) .no))
  .nil)
def f33 : FD := ⟨false, 2, 6, (.cons (.ite (.b2 .eq (.var 1) (.lit (.int 0))) (.cons (.ret (.lst (.cons (.tup .nil) .nil)))
  .nil) .nil)
  (.cons (.setC 2 (.lst .nil))
  (.cons (.loop (.t [3, 4]) (.enum (.var 0)) f33_b0)
  (.cons (.ret (.var 2))
  .nil))))⟩
/-! with_ends -/
def f34_b0 : Ss := (.cons (.app (.var 3) (.tup (.cons (.var 5) (.cons (.ite (.b2 .inn (.var 4) (.var 2)) (.tup (.cons (.lit (.str "end")) (.star (.idx (.var 1) (.var 4)) .nil))) (.var 6)) (.cons (.var 7) (.cons (.var 8) .nil))))))
  .nil)
def f34 : FD := ⟨false, 3, 9, (.cons (.setC 3 (.lst .nil))
  (.cons (.loop (.n 4 [5, 6, 7, 8]) (.enum (.fld (.var 0) .osteps)) f34_b0)
  (.cons (.ret (.make 10 6 (.cons (.bi .tuple (.cons (.var 3) .nil)) (.cons (.fld (.var 0) .ofacts) .nil))))
  .nil)))⟩
/-! marked -/
def f35_b0 : Ss := (.cons (.set 5 (.call 33 (.cons (.bi .sorted (.cons (.bi .list (.cons (.var 3) .nil)) .nil)) (.cons (.var 4) .nil))))
  (.cons (.set 6 (.lc (.var 7) (.v 7) (.e (.var 5)) (.so (.isE (.call 29 (.cons (.call 34 (.cons (.var 0) (.cons (.var 3) (.cons (.var 7) .nil)))) (.cons (.var 1) .nil)))))))
  (.cons (.ite (.b2 .ne (.var 6) (.lst .nil)) (.cons (.ret (.var 6))
  .nil) .nil)
  .nil)))
def f35 : FD := ⟨false, 3, 8, (.cons (.ex (.call 10 (.cons (.var 0) (.cons (.var 1) .nil))))
  (.cons (.set 3 (.call 27 (.cons (.var 0) (.cons (.var 1) .nil))))
  (.cons (.loop (.v 4) (.r1 (.b2 .add (.var 2) (.lit (.int 1)))) f35_b0)
  (.cons (.ret (.lst .nil))
  .nil))))⟩
/-! parting -/
def f36_b0 : Ss := (.cons (.ite (.b2 .ne (.fld (.call 18 (.cons (.var 0) (.cons (.var 2) .nil))) .shown) (.fld (.call 18 (.cons (.var 1) (.cons (.var 2) .nil))) .shown)) (.cons (.ret (.var 2))
  .nil) .nil)
  .nil)
def f36 : FD := ⟨false, 2, 3, (.cons (.ite (.b2 .ne (.fld (.var 0) .ofacts) (.fld (.var 1) .ofacts)) (.cons (.raise 4 .nil)
  .nil) .nil)
  (.cons (.loop (.v 2) (.e (.call 23 (.cons (.var 0) (.cons (.call 26 (.cons (.b2 .add (.bi .len (.cons (.fld (.var 0) .osteps) .nil)) (.bi .len (.cons (.fld (.var 1) .osteps) .nil))) .nil)) .nil)))) f36_b0)
  (.cons (.ret (.lit .non))
  .nil)))⟩
/-! alike -/
def f37 : FD := ⟨false, 2, 2, (.cons (.ret (.b2 .isN (.call 36 (.cons (.var 0) (.cons (.var 1) .nil))) (.lit .non)))
  .nil)⟩
/-! is_same_by -/
def f38_b0 : Ss := (.cons (.ite (.b2 .ne (.fld (.call 18 (.cons (.var 0) (.cons (.var 2) .nil))) .shown) (.fld (.make 11 13 (.cons (.fld (.var 0) .osteps) (.cons (.var 2) (.cons (.var 1) .nil)))) .shown)) (.cons (.ret (.lit (.bl false)))
  .nil) .nil)
  .nil)
def f38 : FD := ⟨false, 2, 3, (.cons (.loop (.v 2) (.e (.call 23 (.cons (.var 0) (.cons (.call 26 (.cons (.b2 .mul (.lit (.int 2)) (.bi .len (.cons (.fld (.var 0) .osteps) .nil))) .nil)) .nil)))) f38_b0)
  (.cons (.ret (.lit (.bl true)))
  .nil))⟩
/-! needless -/
def f39 : FD := ⟨false, 1, 4, (.cons (.set 1 (.bi .rng (.cons (.bi .len (.cons (.fld (.var 0) .osteps) .nil)) .nil)))
  (.cons (.ret (.lc (.var 2) (.v 2) (.e (.var 1)) (.so (.call 38 (.cons (.var 0) (.cons (.lc (.var 3) (.v 3) (.e (.var 1)) (.so (.b2 .ne (.var 3) (.var 2)))) .nil))))))
  .nil))⟩
/-! swaps -/
def f40_b0 : Ss := (.cons (.ite (.call 38 (.cons (.var 0) (.cons (.lst (.star (.sl (.var 1) .no (.so (.var 3))) (.cons (.b2 .add (.var 3) (.lit (.int 1))) (.cons (.var 3) (.star (.sl (.var 1) (.so (.b2 .add (.var 3) (.lit (.int 2)))) .no) .nil))))) .nil))) (.cons (.app (.var 2) (.var 3))
  .nil) .nil)
  .nil)
def f40 : FD := ⟨false, 1, 4, (.cons (.set 1 (.bi .rng (.cons (.bi .len (.cons (.fld (.var 0) .osteps) .nil)) .nil)))
  (.cons (.setC 2 (.lst .nil))
  (.cons (.loop (.v 3) (.e (.sl (.var 1) .no (.so (.neg (.lit (.int 1)))))) f40_b0)
  (.cons (.ret (.var 2))
  .nil))))⟩
/-! first_pieces -/
def f41_b0 : Ss := (.cons (.setd (.var 1) (.bi .len (.cons (.fld (.call 18 (.cons (.var 0) (.cons (.var 2) .nil))) .shown) .nil)) (.var 2))
  .nil)
def f41 : FD := ⟨false, 1, 3, (.cons (.setK 1)
  (.cons (.loop (.v 2) (.e (.call 23 (.cons (.var 0) (.cons (.call 26 (.cons (.bi .len (.cons (.fld (.var 0) .osteps) .nil)) .nil)) .nil)))) f41_b0)
  (.cons (.ret (.var 1))
  .nil)))⟩
/-! pieces -/
def f42 : FD := ⟨false, 1, 1, (.cons (.ret (.bi .sorted (.cons (.bi .list (.cons (.call 41 (.cons (.var 0) .nil)) .nil)) .nil)))
  .nil)⟩
/-! least_pieces -/
def f43 : FD := ⟨false, 2, 2, (.cons (.ite (.or (.not (.bi (.isi .int) (.cons (.var 1) .nil))) (.bi (.isi .bool) (.cons (.var 1) .nil))) (.cons (.ret (.lit .non))
  .nil) .nil)
  (.cons (.ret (.get2 (.call 41 (.cons (.var 0) .nil)) (.var 1) (.lit .non)))
  .nil))⟩
/-! Model.__init__ -/
def f44 : FD := ⟨true, 3, 3, (.cons (.ex (.call 10 (.cons (.var 1) (.cons (.var 2) .nil))))
  (.cons (.fput (.var 0) .pused (.var 1))
  (.cons (.fput (.var 0) .snow (.var 2))
  (.cons (.fnew (.var 0) .past (.lst .nil))
  .nil))))⟩
/-! Model.turn -/
def f45 : FD := ⟨false, 3, 8, (.cons (.ite (.or (.not (.bi (.isi .str) (.cons (.var 1) .nil))) (.b2 .nin (.var 1) (.tup (.cons (.lit (.str "a")) (.cons (.lit (.str "b")) .nil))))) (.cons (.raise 5 .nil)
  .nil) .nil)
  (.cons (.set 3 (.ite (.b2 .eq (.var 1) (.lit (.str "a"))) (.tup (.cons (.var 2) (.cons (.idx (.fld (.var 0) .snow) (.lit (.int 1))) .nil))) (.tup (.cons (.idx (.fld (.var 0) .snow) (.lit (.int 0))) (.cons (.var 2) .nil)))))
  (.cons (.ex (.call 10 (.cons (.fld (.var 0) .pused) (.cons (.var 3) .nil))))
  (.cons (.unp (.t [4, 5]) (.tup (.cons (.call 21 (.cons (.fld (.var 0) .pused) (.cons (.fld (.var 0) .snow) .nil))) (.cons (.call 21 (.cons (.fld (.var 0) .pused) (.cons (.var 3) .nil))) .nil))))
  (.cons (.app (.fld (.var 0) .past) (.fld (.var 0) .snow))
  (.cons (.fput (.var 0) .snow (.var 3))
  (.cons (.ret (.lc (.var 6) (.t [6, 7]) (.enum (.var 4)) (.so (.b2 .ne (.var 7) (.idx (.var 5) (.var 6))))))
  .nil)))))))⟩
/-! Model.sizes -/
def f46 : FD := ⟨false, 1, 1, (.cons (.ret (.fld (.var 0) .snow))
  .nil)⟩
/-! Model.drawn -/
def f47 : FD := ⟨false, 1, 1, (.cons (.ret (.call 60 (.cons (.fld (.var 0) .pused) (.cons (.fld (.var 0) .snow) .nil))))
  .nil)⟩
/-! Model.done -/
def f48 : FD := ⟨false, 1, 1, (.cons (.ret (.call 61 (.cons (.fld (.var 0) .pused) (.cons (.fld (.var 0) .snow) .nil))))
  .nil)⟩
/-! Model.undo -/
def f49 : FD := ⟨false, 1, 1, (.cons (.ite (.b2 .eq (.fld (.var 0) .past) (.lst .nil)) (.cons (.ret (.lit (.bl false)))
  .nil) .nil)
  (.cons (.fput (.var 0) .snow (.pop (.fld (.var 0) .past)))
  (.cons (.ret (.lit (.bl true)))
  .nil)))⟩
/-! Model.__len__ -/
def f50 : FD := ⟨false, 1, 1, (.cons (.ret (.bi .len (.cons (.fld (.var 0) .past) .nil)))
  .nil)⟩
/-! words_of -/
def f51 : FD := ⟨false, 1, 3, (.cons (.ite (.not (.bi (.isi .tuple) (.cons (.var 0) .nil))) (.cons (.ret (.lst (.cons (.bi .str (.cons (.var 0) .nil)) .nil)))
  .nil) .nil)
  (.cons (.ret (.lc2 (.var 2) (.v 1) (.e (.var 0)) (.v 2) (.e (.call 51 (.cons (.var 1) .nil)))))
  .nil))⟩
/-! write -/
def f52 : FD := ⟨false, 1, 5, (.cons (.setC 1 (.lc (.join (.lit (.str " ")) (.lst (.cons (.lit (.str "fact")) (.star (.call 51 (.cons (.var 2) .nil)) .nil)))) (.v 2) (.e (.fld (.var 0) .ofacts)) .no))
  (.cons (.extnd (.var 1) (.lc (.join (.lit (.str " ")) (.call 51 (.cons (.var 3) .nil))) (.v 3) (.e (.fld (.var 0) .osteps)) .no))
  (.cons (.ret (.join (.lit (.str "")) (.lc (.b2 .add (.var 4) (.lit (.str "\n"))) (.v 4) (.e (.var 1)) .no)))
  .nil)))⟩
/-! value_of -/
def f53 : FD := ⟨false, 1, 1, (.cons (.ret (.ite (.dig (.var 0)) (.bi .int (.cons (.var 0) .nil)) (.var 0)))
  .nil)⟩
/-! fact_of -/
def f54 : FD := ⟨false, 1, 4, (.cons (.ite (.b2 .ne (.bi .len (.cons (.var 0) .nil)) (.lit (.int 6))) (.cons (.ret (.lit .non))
  .nil) .nil)
  (.cons (.set 1 (.lc (.call 53 (.cons (.var 3) .nil)) (.v 3) (.e (.var 0)) .no))
  (.cons (.set 2 (.tup (.cons (.idx (.var 1) (.lit (.int 1))) (.cons (.tup (.cons (.idx (.var 1) (.lit (.int 2))) (.cons (.idx (.var 1) (.lit (.int 3))) .nil))) (.cons (.tup (.cons (.idx (.var 1) (.lit (.int 4))) (.cons (.idx (.var 1) (.lit (.int 5))) .nil))) .nil)))))
  (.cons (.ret (.ite (.call 5 (.cons (.var 2) .nil)) (.var 2) (.lit .non)))
  .nil))))⟩
/-! step_of -/
def f55 : FD := ⟨false, 2, 5, (.cons (.ite (.b2 .lt (.bi .len (.cons (.var 0) .nil)) (.lit (.int 5))) (.cons (.ret (.lit .non))
  .nil) .nil)
  (.cons (.set 2 (.lc (.call 53 (.cons (.var 4) .nil)) (.v 4) (.e (.var 0)) .no))
  (.cons (.set 3 (.tup (.cons (.idx (.var 2) (.lit (.int 0))) (.cons (.bi .tuple (.cons (.sl (.var 2) (.so (.lit (.int 1))) (.so (.neg (.lit (.int 3))))) .nil)) (.cons (.idx (.var 2) (.neg (.lit (.int 3)))) (.cons (.tup (.cons (.idx (.var 2) (.neg (.lit (.int 2)))) (.cons (.idx (.var 2) (.neg (.lit (.int 1)))) .nil))) .nil))))))
  (.cons (.ret (.ite (.call 4 (.cons (.var 3) (.cons (.var 1) .nil))) (.var 3) (.lit .non)))
  .nil))))⟩
/-! read -/
def f56_b0 : Ss := (.cons (.set 6 (.split (.var 5) (.lit (.str " "))))
  (.cons (.set 7 (.b2 .eq (.idx (.var 6) (.lit (.int 0))) (.lit (.str "fact"))))
  (.cons (.set 8 (.ite (.var 7) (.call 54 (.cons (.var 6) .nil)) (.call 55 (.cons (.var 6) (.cons (.bi .len (.cons (.var 3) .nil)) .nil)))))
  (.cons (.set 9 (.or (.and (.var 7) (.b2 .ne (.var 3) (.lst .nil))) (.b2 .eq (.bi .len (.cons (.ite (.var 7) (.var 2) (.var 3)) .nil)) (.ite (.var 7) (.glo "MOST_FACTS" (.int 2)) (.glo "MOST_STEPS" (.int 5))))))
  (.cons (.ite (.or (.b2 .isN (.var 8) (.lit .non)) (.var 9)) (.cons .dead
  .nil) .nil)
  (.cons (.ite (.var 7) (.cons (.app (.var 2) (.var 8))
  .nil) (.cons (.app (.var 3) (.var 8))
  .nil))
  .nil))))))
def f56 : FD := ⟨false, 1, 10, (.cons (.set 1 (.split (.var 0) (.lit (.str "\n"))))
  (.cons (.parC 2 3)
  (.cons (.loop (.t [4, 5]) (.enum (.sl (.var 1) .no (.so (.neg (.lit (.int 1)))))) f56_b0)
  (.cons (.ite (.b2 .ne (.idx (.var 1) (.neg (.lit (.int 1)))) (.lit (.str ""))) (.cons .dead
  .nil) .nil)
  (.cons (.ret (.make 10 6 (.cons (.bi .tuple (.cons (.var 3) .nil)) (.cons (.bi .tuple (.cons (.var 2) .nil)) .nil))))
  .nil)))))⟩
/-! Plan.steps -/
def f57 : FD := ⟨false, 1, 1, (.cons (.ret (.fld (.var 0) .osteps))
  .nil)⟩
/-! Plan.facts -/
def f58 : FD := ⟨false, 1, 1, (.cons (.ret (.fld (.var 0) .ofacts))
  .nil)⟩
/-! Plan.__eq__ -/
def f59 : FD := ⟨false, 2, 2, (.cons (.ret (.and (.isC 10 (.var 1)) (.and (.b2 .eq (.fld (.var 0) .osteps) (.fld (.var 1) .osteps)) (.b2 .eq (.fld (.var 0) .ofacts) (.fld (.var 1) .ofacts)))))
  .nil)⟩
/-! drawn_drawing -/
def f60 : FD := ⟨false, 2, 2, (.cons (.ex (.call 10 (.cons (.var 0) (.cons (.var 1) .nil))))
  (.cons (.ret (.fld (.call 18 (.cons (.var 0) (.cons (.var 1) .nil))) .shown))
  .nil))⟩
/-! done_drawing -/
def f61 : FD := ⟨false, 2, 4, (.cons (.ex (.call 10 (.cons (.var 0) (.cons (.var 1) .nil))))
  (.cons (.set 2 (.call 18 (.cons (.var 0) (.cons (.var 1) .nil))))
  (.cons (.ret (.lc (.b2 .inn (.var 3) (.fld (.var 2) .bars)) (.v 3) (.r1 (.bi .len (.cons (.fld (.var 0) .osteps) .nil))) .no))
  .nil)))⟩
/-! _law_random -/
def f70_b0 : Ss := (.cons (.set 2 (.b2 .mod (.bi .int (.cons (.b2 .add (.b2 .mul (.var 2) (.lit (.int 31))) (.bi .abs (.cons (.var 3) .nil))) .nil)) (.lit (.int 2147483647))))
  .nil)
def f70 : FD := ⟨false, 2, 4, (.cons (.set 2 (.var 1))
  (.cons (.loop (.v 3) (.e (.var 0)) f70_b0)
  (.cons (.ret (.catN (.lst (.cons (.var 2) (.cons (.lit (.int 0)) .nil))) (.lc (.var 3) (.v 3) (.e (.var 0)) (.so (.b2 .ge (.var 3) (.b2 .pow (.lit (.int 10)) (.lit (.int 18))))))))
  .nil)))⟩
/-! _law_below -/
def f71 : FD := ⟨false, 2, 3, (.cons (.ite (.and (.b2 .eq (.idx (.var 0) (.lit (.int 1))) (.lit (.int 0))) (.b2 .gt (.bi .len (.cons (.var 0) .nil)) (.lit (.int 2)))) (.cons (.put (.var 0) (.lit (.int 1)) (.popAt (.var 0) (.lit (.int 2))))
  .nil) .nil)
  (.cons (.ite (.b2 .gt (.idx (.var 0) (.lit (.int 1))) (.lit (.int 0))) (.cons (.set 2 (.b2 .mod (.bi .int (.cons (.idx (.var 0) (.lit (.int 1))) .nil)) (.var 1)))
  (.cons (.put (.var 0) (.lit (.int 1)) (.b2 .fdiv (.idx (.var 0) (.lit (.int 1))) (.var 1)))
  (.cons (.ret (.var 2))
  .nil))) .nil)
  (.cons (.put (.var 0) (.lit (.int 0)) (.b2 .mod (.bi .int (.cons (.b2 .add (.b2 .mul (.idx (.var 0) (.lit (.int 0))) (.lit (.int 48271))) (.lit (.int 11))) .nil)) (.lit (.int 2147483647))))
  (.cons (.ret (.b2 .mod (.bi .int (.cons (.b2 .fdiv (.idx (.var 0) (.lit (.int 0))) (.lit (.int 64))) .nil)) (.var 1)))
  .nil))))⟩
/-! _law_pick -/
def f72 : FD := ⟨false, 2, 2, (.cons (.ret (.idx (.var 1) (.call 71 (.cons (.var 0) (.cons (.bi .len (.cons (.var 1) .nil)) .nil)))))
  .nil)⟩
/-! _law_equal -/
def f73 : FD := ⟨false, 2, 4, (.cons (.ite (.b2 .isN (.var 1) (.lit .non)) (.cons (.ret (.b2 .isN (.var 0) (.lit .non)))
  .nil) .nil)
  (.cons (.ite (.bi (.isi .bool) (.cons (.var 1) .nil)) (.cons (.ret (.and (.bi (.isi .bool) (.cons (.var 0) .nil)) (.b2 .eq (.var 0) (.var 1))))
  .nil) .nil)
  (.cons (.ite (.bi (.isi .int) (.cons (.var 1) .nil)) (.cons (.ret (.and (.bi (.isi .int) (.cons (.var 0) .nil)) (.and (.not (.bi (.isi .bool) (.cons (.var 0) .nil))) (.b2 .eq (.var 0) (.var 1)))))
  .nil) .nil)
  (.cons (.ite (.bi (.isi .str) (.cons (.var 1) .nil)) (.cons (.ret (.and (.bi (.isi .str) (.cons (.var 0) .nil)) (.b2 .eq (.var 0) (.var 1))))
  .nil) .nil)
  (.cons (.ite (.bi (.isi .dict) (.cons (.var 1) .nil)) (.cons (.ite (.or (.not (.bi (.isi .dict) (.cons (.var 0) .nil))) (.b2 .ne (.bi .list (.cons (.var 0) .nil)) (.bi .sorted (.cons (.bi .list (.cons (.var 1) .nil)) .nil)))) (.cons (.ret (.lit (.bl false)))
  .nil) .nil)
  (.cons (.ret (.bi .all (.cons (.lc (.call 73 (.cons (.idx (.var 0) (.var 3)) (.cons (.idx (.var 1) (.var 3)) .nil))) (.v 3) (.e (.bi .list (.cons (.var 0) .nil))) .no) .nil)))
  .nil)) .nil)
  (.cons (.ite (.b2 .ne (.bi (.isi .tuple) (.cons (.var 1) .nil)) (.bi (.isi .tuple) (.cons (.var 0) .nil))) (.cons (.ret (.lit (.bl false)))
  .nil) .nil)
  (.cons (.ite (.b2 .ne (.bi (.isi .list) (.cons (.var 1) .nil)) (.bi (.isi .list) (.cons (.var 0) .nil))) (.cons (.ret (.lit (.bl false)))
  .nil) .nil)
  (.cons (.ite (.b2 .ne (.bi .len (.cons (.var 0) .nil)) (.bi .len (.cons (.var 1) .nil))) (.cons (.ret (.lit (.bl false)))
  .nil) .nil)
  (.cons (.ret (.bi .all (.cons (.lc (.call 73 (.cons (.idx (.var 0) (.var 2)) (.cons (.idx (.var 1) (.var 2)) .nil))) (.v 2) (.r1 (.bi .len (.cons (.var 1) .nil))) .no) .nil)))
  .nil)))))))))⟩
/-! _law_length -/
def f74 : FD := ⟨false, 1, 1, (.cons (.ret (.call 72 (.cons (.var 0) (.cons (.lst (.cons (.tup (.cons (.lit (.int 1)) (.cons (.lit (.int 0)) .nil))) (.cons (.tup (.cons (.lit (.int 0)) (.cons (.lit (.int 1)) .nil))) (.cons (.tup (.cons (.lit (.int 1)) (.cons (.lit (.int 1)) .nil))) (.cons (.tup (.cons (.lit (.int 2)) (.cons (.lit (.int 0)) .nil))) (.cons (.tup (.cons (.lit (.int 0)) (.cons (.lit (.int 2)) .nil))) (.cons (.tup (.cons (.lit (.int 2)) (.cons (.lit (.int 1)) .nil))) (.cons (.tup (.cons (.lit (.int 1)) (.cons (.lit (.int 2)) .nil))) (.cons (.tup (.cons (.lit (.int 2)) (.cons (.lit (.int 2)) .nil))) .nil))))))))) .nil))))
  .nil)⟩
/-! _law_name -/
def f75 : FD := ⟨false, 2, 4, (.cons (.set 2 (.call 71 (.cons (.var 0) (.cons (.lit (.int 8)) .nil))))
  (.cons (.ite (.or (.b2 .eq (.var 2) (.lit (.int 0))) (.and (.b2 .eq (.var 1) (.lit (.int 0))) (.b2 .lt (.var 2) (.lit (.int 7))))) (.cons (.ret (.tup (.cons (.lit (.str "start")) .nil)))
  .nil) .nil)
  (.cons (.ite (.or (.b2 .lt (.var 2) (.lit (.int 4))) (.b2 .eq (.var 1) (.lit (.int 0)))) (.cons (.ret (.tup (.cons (.lit (.str "count")) (.cons (.call 72 (.cons (.var 0) (.cons (.lst (.cons (.lit (.str "left")) (.cons (.lit (.str "right")) .nil))) .nil))) (.cons (.call 72 (.cons (.var 0) (.cons (.lst (.cons (.lit (.int 0)) (.cons (.lit (.int 0)) (.cons (.lit (.int 1)) (.cons (.lit (.int 2)) (.cons (.lit (.int 3)) .nil)))))) .nil))) .nil)))))
  .nil) .nil)
  (.cons (.set 3 (.call 71 (.cons (.var 0) (.cons (.var 1) .nil))))
  (.cons (.ite (.b2 .lt (.var 2) (.lit (.int 6))) (.cons (.ret (.tup (.cons (.lit (.str "end")) (.cons (.var 3) (.cons (.call 72 (.cons (.var 0) (.cons (.lst (.cons (.lit (.str "near")) (.cons (.lit (.str "far")) .nil))) .nil))) .nil)))))
  .nil) .nil)
  (.cons (.ret (.tup (.cons (.lit (.str "beside")) (.cons (.var 3) (.cons (.call 72 (.cons (.var 0) (.cons (.lst (.cons (.lit (.str "left")) (.cons (.lit (.str "right")) .nil))) .nil))) .nil)))))
  .nil))))))⟩
/-! _law_steps -/
def f76_b0 : Ss := (.cons (.set 4 (.call 72 (.cons (.var 0) (.cons (.ite (.b2 .gt (.var 3) (.lit (.int 0))) (.lst (.cons (.lit (.str "add")) (.cons (.lit (.str "add")) (.cons (.lit (.str "cut")) .nil)))) (.lst (.cons (.lit (.str "add")) (.cons (.lit (.str "add")) (.cons (.lit (.str "add")) (.cons (.lit (.str "cut")) .nil)))))) .nil))))
  (.cons (.app (.var 2) (.tup (.cons (.var 4) (.cons (.call 75 (.cons (.var 0) (.cons (.var 3) .nil))) (.cons (.call 72 (.cons (.var 0) (.cons (.lst (.cons (.lit (.str "left")) (.cons (.lit (.str "right")) (.cons (.lit (.str "right")) .nil)))) .nil))) (.cons (.call 74 (.cons (.var 0) .nil)) .nil))))))
  .nil))
def f76 : FD := ⟨false, 2, 5, (.cons (.setC 2 (.lst .nil))
  (.cons (.loop (.v 3) (.r1 (.var 1)) f76_b0)
  (.cons (.ret (.bi .tuple (.cons (.var 2) .nil)))
  .nil)))⟩
/-! _law_facts -/
def f77 : FD := ⟨false, 1, 2, (.cons (.set 1 (.lst (.cons (.tup .nil) (.cons (.tup .nil) (.cons (.tup (.cons (.tup (.cons (.lit (.str "less")) (.cons (.tup (.cons (.lit (.int 1)) (.cons (.lit (.int 0)) .nil))) (.cons (.tup (.cons (.lit (.int 0)) (.cons (.lit (.int 1)) .nil))) .nil)))) .nil)) (.cons (.tup (.cons (.tup (.cons (.lit (.str "less")) (.cons (.tup (.cons (.lit (.int 0)) (.cons (.lit (.int 1)) .nil))) (.cons (.tup (.cons (.lit (.int 1)) (.cons (.lit (.int 0)) .nil))) .nil)))) .nil)) (.cons (.tup (.cons (.tup (.cons (.lit (.str "same")) (.cons (.tup (.cons (.lit (.int 1)) (.cons (.lit (.int 0)) .nil))) (.cons (.tup (.cons (.lit (.int 0)) (.cons (.lit (.int 1)) .nil))) .nil)))) .nil)) .nil)))))))
  (.cons (.set 1 (.b2 .add (.var 1) (.lst (.cons (.tup (.cons (.tup (.cons (.lit (.str "less")) (.cons (.tup (.cons (.lit (.int 0)) (.cons (.lit (.int 1)) .nil))) (.cons (.tup (.cons (.lit (.int 2)) (.cons (.lit (.int 0)) .nil))) .nil)))) (.cons (.tup (.cons (.lit (.str "less")) (.cons (.tup (.cons (.lit (.int 1)) (.cons (.lit (.int 0)) .nil))) (.cons (.tup (.cons (.lit (.int 0)) (.cons (.lit (.int 1)) .nil))) .nil)))) .nil))) (.cons (.tup (.cons (.tup (.cons (.lit (.str "same")) (.cons (.tup (.cons (.lit (.int 2)) (.cons (.lit (.int 0)) .nil))) (.cons (.tup (.cons (.lit (.int 0)) (.cons (.lit (.int 1)) .nil))) .nil)))) .nil)) .nil)))))
  (.cons (.ret (.call 72 (.cons (.var 0) (.cons (.b2 .add (.var 1) (.lst (.cons (.tup (.cons (.tup (.cons (.lit (.str "less")) (.cons (.tup (.cons (.lit (.int 1)) (.cons (.lit (.int 1)) .nil))) (.cons (.tup (.cons (.lit (.int 0)) (.cons (.lit (.int 2)) .nil))) .nil)))) .nil)) (.cons (.tup (.cons (.tup (.cons (.lit (.str "less")) (.cons (.tup (.cons (.lit (.int 0)) (.cons (.lit (.int 2)) .nil))) (.cons (.tup (.cons (.lit (.int 1)) (.cons (.lit (.int 0)) .nil))) .nil)))) .nil)) .nil)))) .nil))))
  .nil)))⟩
/-! _law_long -/
def f78 : FD := ⟨false, 2, 2, (.cons (.ret (.b2 .add (.b2 .mul (.idx (.var 0) (.lit (.int 0))) (.idx (.var 1) (.lit (.int 0)))) (.b2 .mul (.idx (.var 0) (.lit (.int 1))) (.idx (.var 1) (.lit (.int 1))))))
  .nil)⟩
/-! _law_keeps -/
def f79_b0 : Ss := (.cons (.set 5 (.b2 .sub (.call 78 (.cons (.var 4) (.cons (.var 1) .nil))) (.call 78 (.cons (.var 3) (.cons (.var 1) .nil)))))
  (.cons (.ite (.or (.b2 .lt (.var 5) (.lit (.int 0))) (.b2 .ne (.b2 .eq (.var 5) (.lit (.int 0))) (.b2 .eq (.var 2) (.lit (.str "same"))))) (.cons (.ret (.lit (.bl false)))
  .nil) .nil)
  .nil))
def f79 : FD := ⟨false, 2, 6, (.cons (.loop (.t [2, 3, 4]) (.e (.var 0)) f79_b0)
  (.cons (.ret (.lit (.bl true)))
  .nil))⟩
/-! _law_sizes -/
def f80_b0 : Ss := (.cons (.ite (.call 79 (.cons (.var 0) (.cons (.tup (.cons (.var 4) (.cons (.b2 .sub (.var 3) (.var 4)) .nil))) .nil))) (.cons (.app (.var 2) (.tup (.cons (.var 4) (.cons (.b2 .sub (.var 3) (.var 4)) .nil))))
  .nil) .nil)
  .nil)
def f80_b1 : Ss := (.cons (.loop (.v 4) (.r2 (.bi .max (.cons (.lst (.cons (.lit (.int 1)) (.cons (.b2 .sub (.var 3) (.var 1)) .nil))) .nil)) (.b2 .add (.bi .min (.cons (.lst (.cons (.var 1) (.cons (.b2 .sub (.var 3) (.lit (.int 1))) .nil))) .nil)) (.lit (.int 1)))) f80_b0)
  .nil)
def f80 : FD := ⟨false, 2, 5, (.cons (.setC 2 (.lst .nil))
  (.cons (.loop (.v 3) (.r2 (.lit (.int 2)) (.b2 .add (.b2 .mul (.lit (.int 2)) (.var 1)) (.lit (.int 1)))) f80_b1)
  (.cons (.ret (.var 2))
  .nil)))⟩
/-! _law_covers -/
def f81_b0 : Ss := (.cons (.unp (.t [3, 4, 5]) (.idx (.var 0) (.var 2)))
  (.cons (.ite (.chain .lt .lt (.b2 .mul (.bi .min (.cons (.var 4) (.cons (.var 5) .nil))) (.lit (.int 2))) (.var 1) (.b2 .mul (.bi .max (.cons (.var 4) (.cons (.var 5) .nil))) (.lit (.int 2)))) (.cons (.ret (.b2 .eq (.var 3) (.lit (.str "add"))))
  .nil) .nil)
  .nil))
def f81 : FD := ⟨false, 2, 6, (.cons (.loop (.v 2) (.e (.rev (.bi .list (.cons (.var 0) .nil)))) f81_b0)
  (.cons (.ret (.lit (.bl false)))
  .nil))⟩
/-! _law_faces -/
def f82 : FD := ⟨false, 1, 4, (.cons (.set 1 (.b2 .add (.lc (.idx (.idx (.var 0) (.var 3)) (.lit (.int 1))) (.v 3) (.keys (.var 0)) .no) (.lc (.idx (.idx (.var 0) (.var 3)) (.lit (.int 2))) (.v 3) (.keys (.var 0)) .no)))
  (.cons (.set 1 (.bi .sortSet (.cons (.var 1) .nil)))
  (.cons (.ret (.lc (.var 2) (.v 2) (.e (.var 1)) (.so (.b2 .ne (.call 81 (.cons (.var 0) (.cons (.b2 .sub (.b2 .mul (.lit (.int 2)) (.var 2)) (.lit (.int 1))) .nil))) (.call 81 (.cons (.var 0) (.cons (.b2 .add (.b2 .mul (.lit (.int 2)) (.var 2)) (.lit (.int 1))) .nil)))))))
  .nil)))⟩
/-! _law_marks -/
def f83_b0 : Ss := (.cons (.unp (.t [4, 5, 6]) (.idx (.var 0) (.var 3)))
  (.cons (.set 2 (.b2 .add (.var 2) (.lc (.tup (.cons (.var 3) (.cons (.var 7) .nil))) (.t [7, 8]) (.e (.lst (.cons (.tup (.cons (.lit (.str "far")) (.cons (.var 6) .nil))) (.cons (.tup (.cons (.lit (.str "near")) (.cons (.var 5) .nil))) .nil)))) (.so (.b2 .eq (.var 8) (.var 1))))))
  .nil))
def f83 : FD := ⟨false, 2, 9, (.cons (.set 2 (.lst .nil))
  (.cons (.loop (.v 3) (.e (.bi .sorted (.cons (.bi .list (.cons (.var 0) .nil)) .nil))) f83_b0)
  (.cons (.ret (.bi .tuple (.cons (.var 2) .nil)))
  .nil)))⟩
/-! _law_finds -/
def f84 : FD := ⟨false, 2, 8, (.cons (.set 2 (.call 82 (.cons (.var 0) .nil)))
  (.cons (.ite (.b2 .eq (.var 1) (.tup (.cons (.lit (.str "start")) .nil))) (.cons (.ret (.lit (.int 0)))
  .nil) .nil)
  (.cons (.ite (.b2 .eq (.idx (.var 1) (.lit (.int 0))) (.lit (.str "count"))) (.cons (.set 5 (.ite (.b2 .eq (.idx (.var 1) (.lit (.int 1))) (.lit (.str "left"))) (.idx (.var 1) (.lit (.int 2))) (.b2 .sub (.b2 .sub (.bi .len (.cons (.var 2) .nil)) (.lit (.int 1))) (.idx (.var 1) (.lit (.int 2))))))
  (.cons (.ret (.ite (.chain .le .lt (.lit (.int 0)) (.var 5) (.bi .len (.cons (.var 2) .nil))) (.idx (.var 2) (.var 5)) (.lit .non)))
  .nil)) .nil)
  (.cons (.ite (.b2 .nin (.idx (.var 1) (.lit (.int 1))) (.var 0)) (.cons (.ret (.lit .non))
  .nil) .nil)
  (.cons (.ite (.b2 .eq (.idx (.var 1) (.lit (.int 0))) (.lit (.str "end"))) (.cons (.set 6 (.idx (.idx (.var 0) (.idx (.var 1) (.lit (.int 1)))) (.ite (.b2 .eq (.idx (.var 1) (.lit (.int 2))) (.lit (.str "near"))) (.lit (.int 1)) (.lit (.int 2)))))
  (.cons (.ret (.ite (.b2 .inn (.var 6) (.var 2)) (.var 6) (.lit .non)))
  .nil)) .nil)
  (.cons (.set 3 (.idx (.idx (.var 0) (.idx (.var 1) (.lit (.int 1)))) (.lit (.int 2))))
  (.cons (.ite (.b2 .eq (.idx (.var 1) (.lit (.int 2))) (.lit (.str "left"))) (.cons (.set 4 (.lc (.var 7) (.v 7) (.e (.var 2)) (.so (.b2 .lt (.var 7) (.var 3)))))
  (.cons (.ret (.ite (.b2 .ne (.var 4) (.lst .nil)) (.bi .max (.cons (.var 4) .nil)) (.lit .non)))
  .nil)) .nil)
  (.cons (.set 4 (.lc (.var 7) (.v 7) (.e (.var 2)) (.so (.b2 .gt (.var 7) (.var 3)))))
  (.cons (.ret (.ite (.b2 .ne (.var 4) (.lst .nil)) (.bi .min (.cons (.var 4) .nil)) (.lit .non)))
  .nil)))))))))⟩
/-! _law_run -/
def f85_b0 : Ss := (.cons (.unp (.t [8, 9, 10, 11]) (.idx (.var 0) (.var 6)))
  (.cons (.set 7 (.call 84 (.cons (.var 3) (.cons (.var 9) .nil))))
  (.cons (.put (.var 5) (.var 6) (.lc (.call 83 (.cons (.var 3) (.cons (.var 13) .nil))) (.v 13) (.e (.call 82 (.cons (.var 3) .nil))) .no))
  (.cons (.put (.var 4) (.var 6) (.lit .non))
  (.cons (.ite (.b2 .notN (.var 7) (.lit .non)) (.cons (.put (.var 4) (.var 6) (.ite (.b2 .eq (.var 9) (.tup (.cons (.lit (.str "start")) .nil))) (.tup .nil) (.call 83 (.cons (.var 3) (.cons (.var 7) .nil)))))
  (.cons (.set 12 (.b2 .add (.var 7) (.b2 .mul (.call 78 (.cons (.var 11) (.cons (.var 1) .nil))) (.ite (.b2 .eq (.var 10) (.lit (.str "right"))) (.lit (.int 1)) (.neg (.lit (.int 1)))))))
  (.cons (.put (.var 3) (.var 6) (.tup (.cons (.var 8) (.cons (.var 7) (.cons (.var 12) .nil)))))
  .nil))) .nil)
  .nil)))))
def f85 : FD := ⟨false, 3, 14, (.cons (.setK 3)
  (.cons (.setK 4)
  (.cons (.setK 5)
  (.cons (.loop (.v 6) (.e (.var 2)) f85_b0)
  (.cons (.retL (.cons (.var 3) (.cons (.var 4) (.cons (.var 5) .nil))))
  .nil)))))⟩
/-! _law_drawing -/
def f86 : FD := ⟨false, 1, 3, (.cons (.set 1 (.call 82 (.cons (.var 0) .nil)))
  (.cons (.ret (.lc (.tup (.cons (.idx (.var 1) (.b2 .mul (.lit (.int 2)) (.var 2))) (.cons (.idx (.var 1) (.b2 .add (.b2 .mul (.lit (.int 2)) (.var 2)) (.lit (.int 1)))) .nil))) (.v 2) (.r1 (.b2 .fdiv (.bi .len (.cons (.var 1) .nil)) (.lit (.int 2)))) .no))
  .nil))⟩
/-! _law_whole -/
def f87 : FD := ⟨false, 2, 2, (.cons (.ret (.call 85 (.cons (.var 0) (.cons (.var 1) (.cons (.bi .rng (.cons (.bi .len (.cons (.var 0) .nil)) .nil)) .nil)))))
  .nil)⟩
/-! _law_word -/
def f88 : FD := ⟨false, 4, 5, (.cons (.ite (.b2 .isN (.idx (.var 0) (.var 2)) (.lit .non)) (.cons (.ret (.lit (.str "none")))
  .nil) .nil)
  (.cons (.ite (.b2 .inn (.var 3) (.idx (.var 0) (.var 2))) (.cons (.ret (.lit .non))
  .nil) .nil)
  (.cons (.ret (.ite (.b2 .ne (.lc (.var 4) (.v 4) (.e (.idx (.var 1) (.var 2))) (.so (.b2 .inn (.var 3) (.var 4)))) (.lst .nil)) (.lit (.str "other")) (.lit (.str "gone"))))
  .nil)))⟩
/-! _law_means -/
def f90 : FD := ⟨false, 2, 4, (.cons (.set 2 (.idx (.call 87 (.cons (.var 0) (.cons (.var 1) .nil))) (.lit (.int 1))))
  (.cons (.ret (.bi .dict (.cons (.lc (.tup (.cons (.var 3) (.cons (.idx (.idx (.var 2) (.var 3)) (.lit (.int 0))) .nil))) (.v 3) (.r1 (.bi .len (.cons (.var 0) .nil))) (.so (.and (.b2 .notN (.idx (.var 2) (.var 3)) (.lit .non)) (.b2 .ne (.idx (.var 2) (.var 3)) (.tup .nil))))) .nil)))
  .nil))⟩
/-! _law_sets -/
def f93_b0 : Ss := (.cons (.set 2 (.b2 .add (.var 2) (.lc (.b2 .add (.var 4) (.tup (.cons (.var 3) .nil))) (.v 4) (.e (.var 2)) .no)))
  .nil)
def f93 : FD := ⟨false, 2, 5, (.cons (.set 2 (.lst (.cons (.tup .nil) .nil)))
  (.cons (.loop (.v 3) (.e (.var 0)) f93_b0)
  (.cons (.ret (.bi .sorted (.cons (.lc (.var 4) (.v 4) (.e (.var 2)) (.so (.b2 .eq (.bi .len (.cons (.var 4) .nil)) (.var 1)))) .nil)))
  .nil)))⟩
/-! _law_ended -/
def f94_b0 : Ss := (.cons (.unp (.t [5, 6, 7, 8]) (.idx (.var 0) (.var 4)))
  (.cons (.app (.var 3) (.tup (.cons (.var 5) (.cons (.ite (.b2 .inn (.var 4) (.var 2)) (.b2 .add (.tup (.cons (.lit (.str "end")) .nil)) (.idx (.var 1) (.var 4))) (.var 6)) (.cons (.var 7) (.cons (.var 8) .nil))))))
  .nil))
def f94 : FD := ⟨false, 3, 9, (.cons (.setC 3 (.lst .nil))
  (.cons (.loop (.v 4) (.r1 (.bi .len (.cons (.var 0) .nil))) f94_b0)
  (.cons (.ret (.bi .tuple (.cons (.var 3) .nil)))
  .nil)))⟩
/-! _law_least -/
def f95_b0 : Ss := (.cons (.set 4 (.call 86 (.cons (.idx (.call 87 (.cons (.var 0) (.cons (.var 3) .nil))) (.lit (.int 0))) .nil)))
  (.cons (.ite (.b2 .ne (.var 4) (.call 86 (.cons (.idx (.call 87 (.cons (.var 1) (.cons (.var 3) .nil))) (.lit (.int 0))) .nil))) (.cons (.ret (.var 3))
  .nil) .nil)
  .nil))
def f95 : FD := ⟨false, 3, 5, (.cons (.loop (.v 3) (.e (.call 80 (.cons (.var 2) (.cons (.b2 .mul (.lit (.int 4)) (.bi .max (.cons (.lst (.cons (.lit (.int 1)) (.cons (.b2 .add (.bi .len (.cons (.var 0) .nil)) (.bi .len (.cons (.var 1) .nil))) .nil))) .nil))) .nil)))) f95_b0)
  (.cons (.ret (.lit .non))
  .nil))⟩
/-! _law_near -/
def f96 : FD := ⟨false, 2, 9, (.cons (.ite (.or (.b2 .eq (.var 1) (.tup .nil)) (.b2 .eq (.call 71 (.cons (.var 0) (.cons (.lit (.int 5)) .nil))) (.lit (.int 0)))) (.cons (.ret (.call 76 (.cons (.var 0) (.cons (.call 71 (.cons (.var 0) (.cons (.lit (.int 5)) .nil))) .nil))))
  .nil) .nil)
  (.cons (.set 2 (.call 71 (.cons (.var 0) (.cons (.bi .len (.cons (.var 1) .nil)) .nil))))
  (.cons (.unp (.t [5, 6, 7, 8]) (.idx (.var 1) (.var 2)))
  (.cons (.set 3 (.call 71 (.cons (.var 0) (.cons (.lit (.int 5)) .nil))))
  (.cons (.ite (.b2 .eq (.var 3) (.lit (.int 0))) (.cons (.ret (.sl (.var 1) .no (.so (.neg (.lit (.int 1))))))
  .nil) .nil)
  (.cons (.ite (.b2 .eq (.var 3) (.lit (.int 1))) (.cons (.ret (.b2 .add (.b2 .add (.sl (.var 1) .no (.so (.var 2))) (.tup (.cons (.tup (.cons (.var 5) (.cons (.call 75 (.cons (.var 0) (.cons (.var 2) .nil))) (.cons (.var 7) (.cons (.var 8) .nil))))) .nil))) (.sl (.var 1) (.so (.b2 .add (.var 2) (.lit (.int 1)))) .no)))
  .nil) .nil)
  (.cons (.ite (.b2 .eq (.var 3) (.lit (.int 2))) (.cons (.ret (.b2 .add (.b2 .add (.sl (.var 1) .no (.so (.var 2))) (.tup (.cons (.tup (.cons (.var 5) (.cons (.var 6) (.cons (.var 7) (.cons (.call 74 (.cons (.var 0) .nil)) .nil))))) .nil))) (.sl (.var 1) (.so (.b2 .add (.var 2) (.lit (.int 1)))) .no)))
  .nil) .nil)
  (.cons (.ite (.and (.b2 .eq (.var 3) (.lit (.int 3))) (.b2 .lt (.bi .len (.cons (.var 1) .nil)) (.lit (.int 4)))) (.cons (.ret (.b2 .add (.var 1) (.sl (.var 1) (.so (.neg (.lit (.int 1)))) .no)))
  .nil) .nil)
  (.cons (.set 4 (.ite (.b2 .eq (.var 7) (.lit (.str "right"))) (.lit (.str "left")) (.lit (.str "right"))))
  (.cons (.ret (.b2 .add (.b2 .add (.sl (.var 1) .no (.so (.var 2))) (.tup (.cons (.tup (.cons (.var 5) (.cons (.var 6) (.cons (.var 4) (.cons (.var 8) .nil))))) .nil))) (.sl (.var 1) (.so (.b2 .add (.var 2) (.lit (.int 1)))) .no)))
  .nil))))))))))⟩
/-! _law_refused -/
def f97 : FD := ⟨false, 2, 3, (.cons (.set 2 (.lit (.bl false)))
  (.cons (.try_ [2, 4] (.cons (.ex (.call 36 (.cons (.var 0) (.cons (.var 1) .nil))))
  .nil) [(4, none, (.lit 2 (.bl true)))])
  (.cons (.ret (.var 2))
  .nil)))⟩
end Bf

set_option Elab.async false
set_option linter.all false
namespace Bf
namespace P
open PySem
/-! ### laws over the evaluator: the steps -/
section
variable {α β : Type} {M : Mem} {e : Env}
@[simp] theorem bo (a : α) (f : α → Mem → Rs β) : (Rs.ok a M).bind f = f a M := (rfl)
@[simp] theorem be (c : Nat) (x : D) (f : α → Mem → Rs β) : (Rs.ex c x M : Rs α).bind f = .ex c x M := (rfl)
@[simp] theorem oro (a : α) (f : α → Mem → Rt) : onR (.ok a M) e f = f a M := (rfl)
@[simp] theorem ore (c : Nat) (x : D) (f : α → Mem → Rt) : onR (.ex c x M) e f = .ex c x e M := (rfl)
@[simp] theorem thn (f : Env → Mem → Rt) : thenR (.nx e M) f = f e M := (rfl)
@[simp] theorem thr (w : W) (f : Env → Mem → Rt) : thenR (.rt w M) f = .rt w M := (rfl)
@[simp] theorem thx (c : Nat) (d : D) (f : Env → Mem → Rt) : thenR (.ex c d e M) f = .ex c d e M := (rfl)
@[simp] theorem rdv (d : D) (f : D → Mem → Rs W) : rd (.ok (.v d) M) f = f d M := (rfl)
@[simp] theorem rdn (d : List D) (f : D → Mem → Rs W) : rd (.ok (.n d) M) f = f (.lst d) M := (rfl)
@[simp] theorem rdc (i : Nat) (f : D → Mem → Rs W) : rd (.ok (.c i) M) f = match W.get M (.c i) with
  | some d => f d M
  | none => .no := (rfl)
@[simp] theorem rdf (i : Nat) (g : Fd) (f : D → Mem → Rs W) : rd (.ok (.f i g) M) f = match W.get M (.f i g) with
  | some d => f d M
  | none => .no := (rfl)
@[simp] theorem rvv (d : D) (f : D → Mem → Rs W) : rv (.ok (.v d) M) f = f d M := (rfl)
@[simp] theorem tsv (k : Bool) (f : Bool → Mem → Rs W) : tst (.ok (.v (.bl k)) M) f = f k M := (rfl)
@[simp] theorem tsb (k : Bool) : tstB (.ok (.v (.bl k)) M) = .ok k M := (rfl)
@[simp] theorem tsx (c : Nat) (x : D) : tstB (.ex c x M) = .ex c x M := (rfl)
@[simp] theorem toVv (d : D) : toV (.ok (.v d) M) = .ok (.v d) M := (rfl)
@[simp] theorem toVn (d : List D) : toV (.ok (.n d) M) = .ok (.v (.lst d)) M := (rfl)
@[simp] theorem toVc (i : Nat) : toV (.ok (.c i) M) = .ok (.c i) M := (rfl)
@[simp] theorem toVe (c : Nat) (x : D) : toV (.ex c x M) = .ex c x M := (rfl)
@[simp] theorem ofs (a : α) : ofO (some a) M = .ok a M := (rfl)
@[simp] theorem ownr (n : Nat) (d : D) : outR n (.rt (.v d) M) = .ok (.v d) (M.take n) := (rfl)
@[simp] theorem ownn (n : Nat) (d : List D) : outR n (.rt (.n d) M) = .ok (.n d) (M.take n) := (rfl)
@[simp] theorem ownx (n : Nat) : outR n (.nx e M) = .ok (.v .non) (M.take n) := (rfl)
@[simp] theorem owne (n : Nat) (c : Nat) (x : D) : outR n (.ex c x e M) = .ex c x (M.take n) := (rfl)
@[simp] theorem inir : initR (.ok (.v .non) M) = .ok (.v .non) M := (rfl)
@[simp] theorem inie (c : Nat) (x : D) : initR (.ex c x M) = .ex c x M := (rfl)
@[simp] theorem nEo (a : α) : noEx (.ok a M) = .ok a M := (rfl)
@[simp] theorem asDv (d : D) : asD (.v d) = some d := (rfl)
@[simp] theorem asDn (d : List D) : asD (.n d) = some (.lst d) := (rfl)
@[simp] theorem getv (d : D) : W.get M (.v d) = some d := (rfl)
@[simp] theorem getn (d : List D) : W.get M (.n d) = some (.lst d) := (rfl)
@[simp] theorem getc (i : Nat) : W.get M (.c i) = M[i]? := (rfl)
@[simp] theorem cat0 (x : D) (l : Mem) : (l ++ [x])[l.length]? = some x := by simp
@[simp] theorem cat1 (l m : Mem) : (l ++ m).take l.length = l := by simp
@[simp] theorem cat2 (x y : D) (l : Mem) : (l ++ [x]).set l.length y = l ++ [y] := by simp
end
/-- an argument that holds d -/
inductive Rd (M : Mem) : W → D → Prop where
  | v (d : D) : Rd M (.v d) d
  | c (i : Nat) (d : D) (h : M[i]? = some d) : Rd M (.c i) d
theorem Rd.get {M : Mem} {w : W} {d : D} (h : Rd M w d) : w.get M = some d := by cases h <;> first | rfl | assumption
theorem Rd.app {M : Mem} {w : W} {d : D} (h : Rd M w d) (N : Mem) : Rd (M ++ N) w d := by
  cases h with
  | v => exact .v _
  | c i _ h => refine .c i _ ?_; have : i < M.length := (List.getElem?_eq_some_iff.mp h).1; rw [List.getElem?_append_left this]; exact h
section
variable (cl : Nat → List W → Mem → Rs W) (n0 : Nat)
/-- sealed: a loop -/
def loopS (tg : Tg) (body : Ss) (xs : List D) (v : Env) (M : Mem) : Rt := loopR (fun x v1 M2 => match bindT tg x v1 with
    | some v2 => evSs cl n0 body v2 M2
    | none => .no) xs v M
theorem loopS_nil (tg : Tg) (body : Ss) (v : Env) (M : Mem) : loopS cl n0 tg body [] v M = .nx v M := (rfl)
theorem loopS_cons (tg : Tg) (body : Ss) (x : D) (xs : List D) (v : Env) (M : Mem) : loopS cl n0 tg body (x :: xs) v M = thenR (match bindT tg x v with
    | some v2 => evSs cl n0 body v2 M
    | none => .no) (loopS cl n0 tg body xs) := (rfl)
/-- sealed: a comprehension -/
def lcB (elt : E) (tg : Tg) (cond : OE) (e : Env) (x : D) (M2 : Mem) : Rs (Option D) := match bindT tg x (wipeE e tg.own) with
        | none => .no
        | some e1 => (noEx (evT cl cond e1 M2)).bind fun k M3 => match k with
            | true => (noEx (evE cl elt e1 M3)).bind fun w M4 => match asD w with
              | some d => .ok (some d) M4
              | none => .no
            | false => .ok none M3
def lcS (elt : E) (tg : Tg) (cond : OE) (xs : List D) (e : Env) (M : Mem) : Rs W := (mapL (lcB cl elt tg cond e) xs M).bind fun ys M2 => if ys.length ≤ LIM then .ok (.n ys) M2 else .no
def lc2S (elt : E) (tg : Tg) (tg2 : Tg) (it2 : It) (xs : List D) (e : Env) (M : Mem) : Rs W := (catL (fun x M2 => match bindT tg x (wipeE e (tg.own ++ tg2.own)) with
        | none => .no
        | some e1 => (noEx (evIt cl it2 e1 M2)).bind fun q M3 => if q.1 = true then .no else
          mapL (fun y M4 => match bindT tg2 y (wipeE e1 tg2.own) with
            | none => .no
            | some e2 => (noEx (evE cl elt e2 M4)).bind fun w M5 => match asD w with
              | some d => .ok (some d) M5
              | none => .no) q.2 M3) xs M).bind fun ys M2 => if ys.length ≤ LIM then .ok (.n ys) M2 else .no
@[simp] theorem evS_loop (tg : Tg) (it : It) (body : Ss) (v : Env) (M : Mem) : evS cl n0 (.loop tg it body) v M = onR (evIt cl it v M) v fun p M1 => if p.1 = true then .no else loopS cl n0 tg body p.2 v M1 := by rw [evS]; rfl
@[simp] theorem evS_loopD (tg : Tg) (it : It) (body : Ss) (v : Env) (M : Mem) : evS cl n0 (.loopD tg it body) v M = onR (evIt cl it v M) v fun p M1 => if p.1 = true then .no else noExT (loopS cl n0 tg body p.2 v M1) := by rw [evS]; rfl
@[simp] theorem evE_lc (elt : E) (tg : Tg) (it : It) (cond : OE) (e : Env) (M : Mem) : evE cl (.lc elt tg it cond) e M = (evIt cl it e M).bind fun p M1 => if p.1 = true ∧ (elt.ro && cond.ro) = false then .no else lcS cl elt tg cond p.2 e M1 := by rw [evE]; rfl
@[simp] theorem evE_lc2 (elt : E) (tg : Tg) (it : It) (tg2 : Tg) (it2 : It) (e : Env) (M : Mem) : evE cl (.lc2 elt tg it tg2 it2) e M = (evIt cl it e M).bind fun p M1 => if p.1 = true then .no else lc2S cl elt tg tg2 it2 p.2 e M1 := by rw [evE]; rfl
end
theorem mapL_ok {f : D → Mem → Rs (Option D)} {g : D → Option D} {M : Mem} : ∀ (xs : List D), (∀ x ∈ xs, f x M = .ok (g x) M) → mapL f xs M = .ok (xs.filterMap g) M
  | [], _ => rfl
  | x :: xs, h => by
    rw [mapL, h x (by simp), bo, mapL_ok xs (fun y hy => h y (by simp [hy])), bo]
    simp only [List.filterMap_cons]; cases g x <;> rfl
theorem mapL_some {f : D → Mem → Rs (Option D)} {g : D → D} {M : Mem} (xs : List D) (h : ∀ x ∈ xs, f x M = .ok (some (g x)) M) : mapL f xs M = .ok (xs.map g) M := by
  rw [mapL_ok xs (g := fun x => some (g x)) h]; simp
theorem catL_ok {f : D → Mem → Rs (List D)} {g : D → List D} {M : Mem} : ∀ (xs : List D), (∀ x ∈ xs, f x M = .ok (g x) M) → catL f xs M = .ok (xs.flatMap g) M
  | [], _ => rfl
  | x :: xs, h => by
    rw [catL, h x (by simp), bo, catL_ok xs (fun y hy => h y (by simp [hy])), bo]; simp
section
variable {cl : Nat → List W → Mem → Rs W}
theorem lcS_ok {elt : E} {tg : Tg} {cond : OE} {xs : List D} {e : Env} {M : Mem} (g : D → Option D) (h : ∀ x ∈ xs, lcB cl elt tg cond e x M = .ok (g x) M) (hl : (xs.filterMap g).length ≤ LIM) : lcS cl elt tg cond xs e M = .ok (.n (xs.filterMap g)) M := by
  rw [lcS, mapL_ok xs h, bo, if_pos hl]
/-- over coded items: kept ones -/
theorem lcS_flt {α : Type} {elt : E} {tg : Tg} {cond : OE} {e : Env} {M : Mem} (c : α → D) (p : α → Bool) (g : α → D) (xs : List α) (h : ∀ x ∈ xs, lcB cl elt tg cond e (c x) M = .ok (if p x = true then some (g x) else none) M) (hl : xs.length ≤ LIM) : lcS cl elt tg cond (xs.map c) e M = .ok (.n ((xs.filter p).map g)) M := by
  have hm : mapL (lcB cl elt tg cond e) (xs.map c) M = .ok ((xs.filter p).map g) M := by
    clear hl
    induction xs with
    | nil => rfl
    | cons x xs ih =>
      rw [List.map_cons, mapL, h x (by simp), bo, ih (fun y hy => h y (by simp [hy])), bo, List.filter_cons]
      by_cases hp : p x = true <;> simp [hp, optC]
  rw [lcS, hm, bo, if_pos]
  simp only [List.length_map]; exact Nat.le_trans (List.length_filter_le _ _) hl
theorem lcS_map {α : Type} {elt : E} {tg : Tg} {cond : OE} {e : Env} {M : Mem} (c : α → D) (g : α → D) (xs : List α) (h : ∀ x ∈ xs, lcB cl elt tg cond e (c x) M = .ok (some (g x)) M) (hl : xs.length ≤ LIM) : lcS cl elt tg cond (xs.map c) e M = .ok (.n (xs.map g)) M := by
  have := lcS_flt (cl := cl) (elt := elt) (tg := tg) (cond := cond) (e := e) (M := M) c (fun _ => true) g xs (fun x hx => by rw [h x hx]; rfl) hl
  rw [this, List.filter_eq_self.mpr (fun _ _ => rfl)]
end


@[simp] def xE1 := @evE.eq_1
@[simp] def xE2 := @evE.eq_2
@[simp] def xE3 := @evE.eq_3
@[simp] def xE4 := @evE.eq_4
@[simp] def xE8 := @evE.eq_8
@[simp] def xE9 := @evE.eq_9
@[simp] def xE11 := @evE.eq_11
@[simp] def xE12 := @evE.eq_12
@[simp] def xE13 := @evE.eq_13
@[simp] def xE14 := @evE.eq_14
@[simp] def xE15 := @evE.eq_15
@[simp] def xE16 := @evE.eq_16
@[simp] def xE17 := @evE.eq_17
@[simp] def xE18 := @evE.eq_18
@[simp] def xE19 := @evE.eq_19
@[simp] def xE20 := @evE.eq_20
@[simp] def xE21 := @evE.eq_21
@[simp] def xE22 := @evE.eq_22
@[simp] def xE23 := @evE.eq_23
@[simp] def xE24 := @evE.eq_24
@[simp] def xE25 := @evE.eq_25
@[simp] def xE26 := @evE.eq_26
@[simp] def xE27 := @evE.eq_27
@[simp] def xE28 := @evE.eq_28
@[simp] def xE29 := @evE.eq_29
@[simp] def xE30 := @evE.eq_30
@[simp] def xE31 := @evE.eq_31
@[simp] def xE32 := @evE.eq_32
@[simp] def xE33 := @evE.eq_33
@[simp] def xE34 := @evE.eq_34
@[simp] def xE35 := @evE.eq_35
@[simp] def xE36 := @evE.eq_36
@[simp] def xE39 := @evE.eq_39
@[simp] def xS1 := @evS.eq_1
@[simp] def xS2 := @evS.eq_2
@[simp] def xS3 := @evS.eq_3
@[simp] def xS4 := @evS.eq_4
@[simp] def xS5 := @evS.eq_5
@[simp] def xS6 := @evS.eq_6
@[simp] def xS7 := @evS.eq_7
@[simp] def xS8 := @evS.eq_8
@[simp] def xS9 := @evS.eq_9
@[simp] def xS10 := @evS.eq_10
@[simp] def xS11 := @evS.eq_11
@[simp] def xS12 := @evS.eq_12
@[simp] def xS16 := @evS.eq_16
@[simp] def xS17 := @evS.eq_17
@[simp] def xS18 := @evS.eq_18
@[simp] def xS19 := @evS.eq_19
@[simp] def xS20 := @evS.eq_20
@[simp] def xS21 := @evS.eq_21
@[simp] def xS22 := @evS.eq_22
@[simp] def xS23 := @evS.eq_23
@[simp] def xS24 := @evS.eq_24
@[simp] def xS25 := @evS.eq_25
@[simp] def xS26 := @evS.eq_26
@[simp] def x_evEs1 := @evEs.eq_1
@[simp] def x_evEs2 := @evEs.eq_2
@[simp] def x_evEs3 := @evEs.eq_3
@[simp] def x_evT1 := @evT.eq_1
@[simp] def x_evT2 := @evT.eq_2
@[simp] def x_evOE1 := @evOE.eq_1
@[simp] def x_evOE2 := @evOE.eq_2
@[simp] def x_evSs1 := @evSs.eq_1
@[simp] def x_evIt1 := @evIt.eq_1
@[simp] def x_evIt2 := @evIt.eq_2
@[simp] def x_evIt3 := @evIt.eq_3
@[simp] def x_evIt4 := @evIt.eq_4
@[simp] def x_evIt5 := @evIt.eq_5
@[simp] def x_evIt6 := @evIt.eq_6
section
variable {cl : Nat → List W → Mem → Rs W} {n0 : Nat} {tg : Tg} {body : Ss} {x : D} {xs : List D} {v v2 v3 : Env} {M M3 : Mem}
theorem loopS_nx (h : bindT tg x v = some v2) (h2 : evSs cl n0 body v2 M = .nx v3 M3) : loopS cl n0 tg body (x :: xs) v M = loopS cl n0 tg body xs v3 M3 := by
  rw [loopS_cons, h]; show thenR (evSs cl n0 body v2 M) _ = _; rw [h2]; rfl
theorem loopS_rt {w : W} (h : bindT tg x v = some v2) (h2 : evSs cl n0 body v2 M = .rt w M3) : loopS cl n0 tg body (x :: xs) v M = .rt w M3 := by
  rw [loopS_cons, h]; show thenR (evSs cl n0 body v2 M) _ = _; rw [h2]; rfl
end
@[simp] theorem eqD_str (s t : PySem.Str) : eqD (.str s) (.str t) = some (s == t) := (rfl)
@[simp] theorem eqD_int (s t : Int) : eqD (.int s) (.int t) = some (s == t) := (rfl)
@[simp] theorem eqD_bl (s t : Bool) : eqD (.bl s) (.bl t) = some (s == t) := (rfl)
@[simp] theorem sq1 : ((Str.ofString "less") == (Str.ofString "less")) = true := by decide +kernel
@[simp] theorem sq2 : ((Str.ofString "less") == (Str.ofString "same")) = false := by decide +kernel
@[simp] theorem sq3 : ((Str.ofString "same") == (Str.ofString "less")) = false := by decide +kernel
@[simp] theorem sq4 : ((Str.ofString "same") == (Str.ofString "same")) = true := by decide +kernel
@[simp] theorem sq5 : ((Str.ofString "add") == (Str.ofString "add")) = true := by decide +kernel
@[simp] theorem sq6 : ((Str.ofString "add") == (Str.ofString "cut")) = false := by decide +kernel
@[simp] theorem sq7 : ((Str.ofString "cut") == (Str.ofString "add")) = false := by decide +kernel
@[simp] theorem sq8 : ((Str.ofString "cut") == (Str.ofString "cut")) = true := by decide +kernel
@[simp] theorem sq9 : ((Str.ofString "left") == (Str.ofString "left")) = true := by decide +kernel
@[simp] theorem sq10 : ((Str.ofString "left") == (Str.ofString "right")) = false := by decide +kernel
@[simp] theorem sq11 : ((Str.ofString "right") == (Str.ofString "left")) = false := by decide +kernel
@[simp] theorem sq12 : ((Str.ofString "right") == (Str.ofString "right")) = true := by decide +kernel
@[simp] theorem sq13 : ((Str.ofString "near") == (Str.ofString "near")) = true := by decide +kernel
@[simp] theorem sq14 : ((Str.ofString "near") == (Str.ofString "far")) = false := by decide +kernel
@[simp] theorem sq15 : ((Str.ofString "far") == (Str.ofString "near")) = false := by decide +kernel
@[simp] theorem sq16 : ((Str.ofString "far") == (Str.ofString "far")) = true := by decide +kernel
@[simp] theorem sq17 : ((Str.ofString "start") == (Str.ofString "start")) = true := by decide +kernel
@[simp] theorem sq18 : ((Str.ofString "start") == (Str.ofString "count")) = false := by decide +kernel
@[simp] theorem sq19 : ((Str.ofString "start") == (Str.ofString "end")) = false := by decide +kernel
@[simp] theorem sq20 : ((Str.ofString "start") == (Str.ofString "beside")) = false := by decide +kernel
@[simp] theorem sq21 : ((Str.ofString "count") == (Str.ofString "start")) = false := by decide +kernel
@[simp] theorem sq22 : ((Str.ofString "count") == (Str.ofString "count")) = true := by decide +kernel
@[simp] theorem sq23 : ((Str.ofString "count") == (Str.ofString "end")) = false := by decide +kernel
@[simp] theorem sq24 : ((Str.ofString "count") == (Str.ofString "beside")) = false := by decide +kernel
@[simp] theorem sq25 : ((Str.ofString "end") == (Str.ofString "start")) = false := by decide +kernel
@[simp] theorem sq26 : ((Str.ofString "end") == (Str.ofString "count")) = false := by decide +kernel
@[simp] theorem sq27 : ((Str.ofString "end") == (Str.ofString "end")) = true := by decide +kernel
@[simp] theorem sq28 : ((Str.ofString "end") == (Str.ofString "beside")) = false := by decide +kernel
@[simp] theorem sq29 : ((Str.ofString "beside") == (Str.ofString "start")) = false := by decide +kernel
@[simp] theorem sq30 : ((Str.ofString "beside") == (Str.ofString "count")) = false := by decide +kernel
@[simp] theorem sq31 : ((Str.ofString "beside") == (Str.ofString "end")) = false := by decide +kernel
@[simp] theorem sq32 : ((Str.ofString "beside") == (Str.ofString "beside")) = true := by decide +kernel
@[simp] theorem sq33 : ((Str.ofString "none") == (Str.ofString "none")) = true := by decide +kernel
@[simp] theorem sq34 : ((Str.ofString "none") == (Str.ofString "other")) = false := by decide +kernel
@[simp] theorem sq35 : ((Str.ofString "none") == (Str.ofString "gone")) = false := by decide +kernel
@[simp] theorem sq36 : ((Str.ofString "other") == (Str.ofString "none")) = false := by decide +kernel
@[simp] theorem sq37 : ((Str.ofString "other") == (Str.ofString "other")) = true := by decide +kernel
@[simp] theorem sq38 : ((Str.ofString "other") == (Str.ofString "gone")) = false := by decide +kernel
@[simp] theorem sq39 : ((Str.ofString "gone") == (Str.ofString "none")) = false := by decide +kernel
@[simp] theorem sq40 : ((Str.ofString "gone") == (Str.ofString "other")) = false := by decide +kernel
@[simp] theorem sq41 : ((Str.ofString "gone") == (Str.ofString "gone")) = true := by decide +kernel
@[simp] theorem runF_f (cl : Nat → List W → Mem → Rs W) (np ns : Nat) (body : Ss) (ws : List W) (M : Mem) : runF cl ⟨false, np, ns, body⟩ ws M = if ws.length = np then outR M.length (evSs cl M.length body (ws.map some ++ List.replicate (ns - ws.length) none) M) else .no := (rfl)
@[simp] theorem runF_t (cl : Nat → List W → Mem → Rs W) (np ns : Nat) (body : Ss) (ws : List W) (M : Mem) : runF cl ⟨true, np, ns, body⟩ ws M = if ws.length = np then initR (outR M.length (evSs cl (M.length - 1) body (ws.map some ++ List.replicate (ns - ws.length) none) M)) else .no := (rfl)
@[simp] theorem isCv (d : D) : isCell (.v d) = false := (rfl)
@[simp] theorem isCn (d : List D) : isCell (.n d) = false := (rfl)
@[simp] theorem isCc (i : Nat) : isCell (.c i) = true := (rfl)
@[simp] theorem isCf (i : Nat) (g : Fd) : isCell (.f i g) = true := (rfl)
@[simp] theorem itl (xs : List D) : items (.lst xs) = some xs := (rfl)
@[simp] theorem itt (xs : List D) : items (.tup xs) = some xs := (rfl)
@[simp] theorem LIMe : LIM = 16777216 := (rfl)
@[simp] theorem allVn : allV [] = some [] := (rfl)
@[simp] theorem allVc (d : D) (ws : List W) : allV (.v d :: ws) = (allV ws).map (d :: ·) := (rfl)
@[simp] theorem allVm : ∀ (xs : List D) (ws : List W), allV (xs.map .v ++ ws) = (allV ws).map (xs ++ ·)
  | [], ws => by simp
  | x :: xs, ws => by rw [List.map_cons, List.cons_append, allVc, allVm xs ws]; cases allV ws <;> simp
@[simp] def xg1 := @gets.eq_1
@[simp] def xg2 := @gets.eq_2
theorem getf {M : Mem} (i : Nat) (g : Fd) : W.get M (.f i g) = match M[i]? with
    | some (.ins _ ks xs) => look ks xs g
    | _ => none := (rfl)
@[simp] def xchg := @chg.eq_1
@[simp] def xnxs := @nxO.eq_1
@[simp] def xnxn := @nxO.eq_2
@[simp] theorem isLl (xs : List D) : isLst (some (.lst xs)) = true := (rfl)
@[simp] theorem isDK (ks : List L2.Key) (xs : List D) : isDct (some (.dK ks xs)) = true := (rfl)
@[simp] theorem isDT (ks : List (List L2.Key)) (xs : List D) : isDct (some (.dT ks xs)) = true := (rfl)
@[simp] theorem setc (M : Mem) (d : D) (i : Nat) : W.set M d (.c i) = if i < M.length then some (M.set i d) else none := (rfl)
@[simp] theorem appDl (xs : List D) (y : D) : appD (.lst xs) y = if xs.length < LIM then some (.lst (xs ++ [y])) else none := (rfl)
@[simp] theorem extDl (xs ys : List D) : extD (.lst xs) (.lst ys) = if xs.length + ys.length ≤ LIM then some (.lst (xs ++ ys)) else none := (rfl)
@[simp] theorem allVo {α : Type} (g : α → D) (xs : List α) (ws : List W) : allV (xs.map (W.v ∘ g) ++ ws) = (allV ws).map (xs.map g ++ ·) := by
  have := allVm (xs.map g) ws; rwa [List.map_map] at this
@[simp] theorem bi_len (a : D) : bi .len [a] = (lenD a).map fun (n : Nat) => .int (n : Int) := by rw [bi]; cases lenD a <;> rfl
@[simp] theorem lenl (xs : List D) : lenD (.lst xs) = some xs.length := (rfl)
@[simp] theorem lent (xs : List D) : lenD (.tup xs) = some xs.length := (rfl)
@[simp] theorem bi_sorted (xs : List D) : bi .sorted [.lst xs] = if sortable xs then some (.lst (xs.mergeSort (PySem.W.dataLe false pyD))) else none := (rfl)
@[simp] theorem bi_list1 (xs : List D) : bi .list [.lst xs] = some (.lst xs) := (rfl)
@[simp] theorem bi_list2 (xs : List D) : bi .list [.tup xs] = some (.lst xs) := (rfl)
@[simp] theorem bi_list3 (ks : List L2.Key) (xs : List D) : bi .list [.dK ks xs] = some (.lst (ks.map dKey)) := (rfl)
@[simp] theorem bi_list4 (ks : List (List L2.Key)) (xs : List D) : bi .list [.dT ks xs] = some (.lst (ks.map fun k => .tup (k.map dKey))) := (rfl)
@[simp] theorem bi_tuple1 (xs : List D) : bi .tuple [.lst xs] = some (.tup xs) := (rfl)
@[simp] theorem bi_tuple2 (xs : List D) : bi .tuple [.tup xs] = some (.tup xs) := (rfl)
@[simp] theorem bi_all (xs : List D) : bi .all [.lst xs] = (allBl xs).map fun bs => .bl (bs.all id) := (rfl)
@[simp] theorem bi_any (xs : List D) : bi .any [.lst xs] = (allBl xs).map fun bs => .bl (bs.any id) := (rfl)
@[simp] theorem bi_abs (i : Int) : bi .abs [.int i] = some (.int (if i < 0 then -i else i)) := (rfl)
@[simp] theorem bi_int (i : Int) : bi .int [.int i] = some (.int i) := (rfl)
@[simp] theorem bi_max (i j : Int) : bi .max [.int i, .int j] = some (.int (if j > i then j else i)) := (rfl)
@[simp] theorem bi_min (i j : Int) : bi .min [.int i, .int j] = some (.int (if j < i then j else i)) := (rfl)
@[simp] theorem bi_isi (t : Ty) (a : D) : bi (.isi t) [a] = if tyD a then some (.bl (isTy t a)) else none := by rw [bi]
@[simp] theorem bi_rng (j : Int) : bi .rng [.int j] = if -1000000 < j ∧ j < 1000000 then some (.lst ((List.range j.toNat).map fun (i : Nat) => .int (i : Int))) else none := (rfl)
@[simp] theorem tyD_int (i : Int) : tyD (.int i) = true := (rfl)
@[simp] theorem isTy_int_int (i : Int) : isTy .int (.int i) = true := (rfl)
@[simp] theorem isTy_bool_int (i : Int) : isTy .bool (.int i) = false := (rfl)
@[simp] theorem isTy_str_int (i : Int) : isTy .str (.int i) = false := (rfl)
@[simp] theorem isTy_tuple_int (i : Int) : isTy .tuple (.int i) = false := (rfl)
@[simp] theorem isTy_list_int (i : Int) : isTy .list (.int i) = false := (rfl)
@[simp] theorem isTy_dict_int (i : Int) : isTy .dict (.int i) = false := (rfl)
@[simp] theorem tyD_bl (b : Bool) : tyD (.bl b) = true := (rfl)
@[simp] theorem isTy_int_bl (b : Bool) : isTy .int (.bl b) = true := (rfl)
@[simp] theorem isTy_bool_bl (b : Bool) : isTy .bool (.bl b) = true := (rfl)
@[simp] theorem isTy_str_bl (b : Bool) : isTy .str (.bl b) = false := (rfl)
@[simp] theorem isTy_tuple_bl (b : Bool) : isTy .tuple (.bl b) = false := (rfl)
@[simp] theorem isTy_list_bl (b : Bool) : isTy .list (.bl b) = false := (rfl)
@[simp] theorem isTy_dict_bl (b : Bool) : isTy .dict (.bl b) = false := (rfl)
@[simp] theorem tyD_str (s : PySem.Str) : tyD (.str s) = true := (rfl)
@[simp] theorem isTy_int_str (s : PySem.Str) : isTy .int (.str s) = false := (rfl)
@[simp] theorem isTy_bool_str (s : PySem.Str) : isTy .bool (.str s) = false := (rfl)
@[simp] theorem isTy_str_str (s : PySem.Str) : isTy .str (.str s) = true := (rfl)
@[simp] theorem isTy_tuple_str (s : PySem.Str) : isTy .tuple (.str s) = false := (rfl)
@[simp] theorem isTy_list_str (s : PySem.Str) : isTy .list (.str s) = false := (rfl)
@[simp] theorem isTy_dict_str (s : PySem.Str) : isTy .dict (.str s) = false := (rfl)
@[simp] theorem tyD_tup (xs : List D) : tyD (.tup xs) = true := (rfl)
@[simp] theorem isTy_int_tup (xs : List D) : isTy .int (.tup xs) = false := (rfl)
@[simp] theorem isTy_bool_tup (xs : List D) : isTy .bool (.tup xs) = false := (rfl)
@[simp] theorem isTy_str_tup (xs : List D) : isTy .str (.tup xs) = false := (rfl)
@[simp] theorem isTy_tuple_tup (xs : List D) : isTy .tuple (.tup xs) = true := (rfl)
@[simp] theorem isTy_list_tup (xs : List D) : isTy .list (.tup xs) = false := (rfl)
@[simp] theorem isTy_dict_tup (xs : List D) : isTy .dict (.tup xs) = false := (rfl)
@[simp] theorem tyD_lst (xs : List D) : tyD (.lst xs) = true := (rfl)
@[simp] theorem isTy_int_lst (xs : List D) : isTy .int (.lst xs) = false := (rfl)
@[simp] theorem isTy_bool_lst (xs : List D) : isTy .bool (.lst xs) = false := (rfl)
@[simp] theorem isTy_str_lst (xs : List D) : isTy .str (.lst xs) = false := (rfl)
@[simp] theorem isTy_tuple_lst (xs : List D) : isTy .tuple (.lst xs) = false := (rfl)
@[simp] theorem isTy_list_lst (xs : List D) : isTy .list (.lst xs) = true := (rfl)
@[simp] theorem isTy_dict_lst (xs : List D) : isTy .dict (.lst xs) = false := (rfl)
@[simp] theorem tyD_non  : tyD .non = true := (rfl)
@[simp] theorem isTy_int_non  : isTy .int .non = false := (rfl)
@[simp] theorem isTy_bool_non  : isTy .bool .non = false := (rfl)
@[simp] theorem isTy_str_non  : isTy .str .non = false := (rfl)
@[simp] theorem isTy_tuple_non  : isTy .tuple .non = false := (rfl)
@[simp] theorem isTy_list_non  : isTy .list .non = false := (rfl)
@[simp] theorem isTy_dict_non  : isTy .dict .non = false := (rfl)
@[simp] theorem tyD_dK (ks : List L2.Key) (xs : List D) : tyD (.dK ks xs) = true := (rfl)
@[simp] theorem isTy_int_dK (ks : List L2.Key) (xs : List D) : isTy .int (.dK ks xs) = false := (rfl)
@[simp] theorem isTy_bool_dK (ks : List L2.Key) (xs : List D) : isTy .bool (.dK ks xs) = false := (rfl)
@[simp] theorem isTy_str_dK (ks : List L2.Key) (xs : List D) : isTy .str (.dK ks xs) = false := (rfl)
@[simp] theorem isTy_tuple_dK (ks : List L2.Key) (xs : List D) : isTy .tuple (.dK ks xs) = false := (rfl)
@[simp] theorem isTy_list_dK (ks : List L2.Key) (xs : List D) : isTy .list (.dK ks xs) = false := (rfl)
@[simp] theorem isTy_dict_dK (ks : List L2.Key) (xs : List D) : isTy .dict (.dK ks xs) = true := (rfl)
/-! sealed branches -/
section
variable (cl : Nat → List W → Mem → Rs W) (n0 : Nat)
def itS (a b : Ss) (v : Env) (k : Bool) (M : Mem) : Rt := match k with
  | true => evSs cl n0 a v M
  | false => evSs cl n0 b v M
@[simp] theorem itS_t (a b : Ss) (v : Env) (M : Mem) : itS cl n0 a b v true M = evSs cl n0 a v M := (rfl)
@[simp] theorem itS_f (a b : Ss) (v : Env) (M : Mem) : itS cl n0 a b v false M = evSs cl n0 b v M := (rfl)
@[simp] theorem evS_ite (c : E) (a b : Ss) (v : Env) (M : Mem) : evS cl n0 (.ite c a b) v M = onR (tstB (evE cl c v M)) v (itS cl n0 a b v) := by rw [evS]; rfl
@[simp] theorem evSs_cons (s : S) (ss : Ss) (x : Option W) (v : Env) (M : Mem) : evSs cl n0 (.cons s ss) (x :: v) M = thenR (evS cl n0 s (x :: v) M) (evSs cl n0 ss) := by rw [evSs]
def andK (b : E) (e : Env) (k : Bool) (M : Mem) : Rs W := match k with
  | true => tst (evE cl b e M) fun k M2 => .ok (.v (.bl k)) M2
  | false => .ok (.v (.bl false)) M
@[simp] theorem andK_t (b : E) (e : Env) (M : Mem) : andK cl b e true M = tst (evE cl b e M) fun k M2 => .ok (.v (.bl k)) M2 := (rfl)
@[simp] theorem andK_f (b : E) (e : Env) (M : Mem) : andK cl b e false M = .ok (.v (.bl false)) M := (rfl)
@[simp] theorem evE_and (a b : E) (e : Env) (M : Mem) : evE cl (.and a b) e M = tst (evE cl a e M) (andK cl b e) := by rw [evE]; rfl
def orK (b : E) (e : Env) (k : Bool) (M : Mem) : Rs W := match k with
  | true => .ok (.v (.bl true)) M
  | false => tst (evE cl b e M) fun k M2 => .ok (.v (.bl k)) M2
@[simp] theorem orK_t (b : E) (e : Env) (M : Mem) : orK cl b e true M = .ok (.v (.bl true)) M := (rfl)
@[simp] theorem orK_f (b : E) (e : Env) (M : Mem) : orK cl b e false M = tst (evE cl b e M) fun k M2 => .ok (.v (.bl k)) M2 := (rfl)
@[simp] theorem evE_or (a b : E) (e : Env) (M : Mem) : evE cl (.or a b) e M = tst (evE cl a e M) (orK cl b e) := by rw [evE]; rfl
def iteK (a b : E) (e : Env) (k : Bool) (M : Mem) : Rs W := match k with
  | true => evE cl a e M
  | false => evE cl b e M
@[simp] theorem iteK_t (a b : E) (e : Env) (M : Mem) : iteK cl a b e true M = evE cl a e M := (rfl)
@[simp] theorem iteK_f (a b : E) (e : Env) (M : Mem) : iteK cl a b e false M = evE cl b e M := (rfl)
@[simp] theorem evE_ite (c a b : E) (e : Env) (M : Mem) : evE cl (.ite c a b) e M = tst (evE cl c e M) (iteK cl a b e) := by rw [evE]; rfl
def chK (o' : O2) (c : E) (e : Env) (y : D) (k : Bool) (M : Mem) : Rs W := match k with
  | true => (evE cl c e M).bind fun wc M3 => match wc with
        | .v z => (ofO (op2 o' y z) M3).bind fun r M4 => .ok (.v r) M4
        | _ => .no
  | false => .ok (.v (.bl false)) M
@[simp] theorem chK_t (o' : O2) (c : E) (e : Env) (y : D) (M : Mem) : chK cl o' c e y true M = (evE cl c e M).bind fun wc M3 => match wc with
        | .v z => (ofO (op2 o' y z) M3).bind fun r M4 => .ok (.v r) M4
        | _ => .no := (rfl)
@[simp] theorem chK_f (o' : O2) (c : E) (e : Env) (y : D) (M : Mem) : chK cl o' c e y false M = .ok (.v (.bl false)) M := (rfl)
@[simp] theorem evE_chain (o o' : O2) (a b c : E) (e : Env) (M : Mem) : evE cl (.chain o o' a b c) e M = (evE cl a e M).bind fun wa M1 => (evE cl b e M1).bind fun wb M2 => match wa, wb with
    | .v x, .v y => (match op2 o x y with
      | some (.bl k) => chK cl o' c e y k M2
      | _ => .no)
    | _, _ => .no := by
  rw [evE]; congr 1; funext wa M1; congr 1; funext wb M2
  cases wa <;> cases wb <;> try rfl
  rename_i x y
  cases h : op2 o x y with
  | none => simp [h]
  | some r => cases r with
    | bl k => cases k <;> (simp only [h]; rfl)
    | _ => simp [h]
end
end P
end Bf

set_option Elab.async false
set_option linter.all false
namespace Bf
namespace P
open PySem
/-! ### sorting -/
abbrev dLe : D → D → Bool := PySem.W.dataLe false pyD
abbrev tk (d : D) : List (Int ⊕ List Nat) := PySem.W.keyToks (pyD d)
theorem dLe_eq (a b : D) : dLe a b = !PyProof.Rows.lexLt PyProof.Rows.itemOrd (tk b) (tk a) := rfl
theorem dLe_trans (a b c : D) (h1 : dLe a b = true) (h2 : dLe b c = true) : dLe a c = true := by
  rw [dLe_eq, Bool.not_eq_true'] at *
  exact PyProof.Rows.KeyOrd.kle_trans (O := PyProof.Rows.listOrd PyProof.Rows.itemOrd) (a := tk a) (b := tk b) (c := tk c) h1 h2
theorem dLe_total (a b : D) : (dLe a b || dLe b a) = true := by
  rw [dLe_eq, dLe_eq]
  cases h : PyProof.Rows.lexLt PyProof.Rows.itemOrd (tk b) (tk a)
  · rfl
  · have := PyProof.Rows.KeyOrd.klt_asymm (O := PyProof.Rows.listOrd PyProof.Rows.itemOrd) (a := tk b) (b := tk a) h
    have : PyProof.Rows.lexLt PyProof.Rows.itemOrd (tk a) (tk b) = false := this
    simp [this]
theorem dLe_anti {a b : D} (h1 : dLe a b = true) (h2 : dLe b a = true) : tk a = tk b := by
  rw [dLe_eq, Bool.not_eq_true'] at *
  exact PyProof.Rows.lex_total _ _ h2 h1
/-- a sort ends at the one sorted list -/
theorem sort_to {xs ys : List D} (hp : xs.Perm ys) (hs : ys.Pairwise fun a b => dLe a b = true) (hi : ∀ a ∈ ys, ∀ b ∈ ys, tk a = tk b → a = b) : xs.mergeSort dLe = ys := by
  have p := (List.mergeSort_perm xs dLe).trans hp
  refine List.Perm.eq_of_pairwise (le := fun a b => dLe a b = true) ?_ (List.pairwise_mergeSort dLe_trans dLe_total xs) hs p
  intro a b ha hb h1 h2
  exact hi a (p.mem_iff.mp ha) b hb (dLe_anti h1 h2)
/-! ### codes -/
def dP (p : Int × Int) : D := .tup [.int p.1, .int p.2]
def sW (b : Bool) (t f : PySem.Str) : D := .str (if b then t else f)
inductive Nm where | start | count (l : Bool) (k : Nat) | ende (j : Nat) (n : Bool) | beside (j : Nat) (l : Bool)
  deriving DecidableEq
structure Stp where
  add : Bool
  nm : Nm
  right : Bool
  len : Int × Int
  deriving DecidableEq
structure Fct where
  less : Bool
  one : Int × Int
  other : Int × Int
  deriving DecidableEq
def dNm : Nm → D
  | .start => .tup [.str "start"]
  | .count l k => .tup [.str "count", sW l "left" "right", .int k]
  | .ende j n => .tup [.str "end", .int j, sW n "near" "far"]
  | .beside j l => .tup [.str "beside", .int j, sW l "left" "right"]
def dStp (s : Stp) : D := .tup [sW s.add "add" "cut", dNm s.nm, sW s.right "right" "left", dP s.len]
def dFct (f : Fct) : D := .tup [sW f.less "less" "same", dP f.one, dP f.other]
def dStps (ss : List Stp) : D := .tup (ss.map dStp)
def dFcts (fs : List Fct) : D := .tup (fs.map dFct)
/-- a plan -/
def dPlan (ss : List Stp) (fs : List Fct) : D := .ins 10 [.osteps, .ofacts] [dStps ss, dFcts fs]
def lenOk (l : Int × Int) : Prop := 0 ≤ l.1 ∧ l.1 ≤ 2 ∧ 0 ≤ l.2 ∧ l.2 ≤ 2 ∧ ¬ (l.1 = 0 ∧ l.2 = 0)
def nmOk (i : Nat) : Nm → Prop
  | .start => True
  | .count _ k => k ≤ 3
  | .ende j _ => j < i
  | .beside j _ => j < i
def stpOk (i : Nat) (s : Stp) : Prop := nmOk i s.nm ∧ lenOk s.len
def fctOk (f : Fct) : Prop := lenOk f.one ∧ lenOk f.other
def stpsOk (ss : List Stp) : Prop := ss.length ≤ 5 ∧ ∀ i (s : Stp), ss[i]? = some s → stpOk i s
def fctsOk (fs : List Fct) : Prop := fs.length ≤ 2 ∧ ∀ f ∈ fs, fctOk f
/-! ### what they are worth -/
def long (l s : Int × Int) : Int := l.1 * s.1 + l.2 * s.2
def keepsF (f : Fct) (s : Int × Int) : Bool := if f.less then decide (long f.one s < long f.other s) else decide (long f.one s = long f.other s)
def keeps (fs : List Fct) (s : Int × Int) : Bool := fs.all fun f => keepsF f s
theorem lenOk.nat1 {l : Int × Int} (h : lenOk l) : l.1.natAbs < 18446744073709551616 := by have := h.1; have := h.2.1; omega
theorem lenOk.nat2 {l : Int × Int} (h : lenOk l) : l.2.natAbs < 18446744073709551616 := by have := h.2.2.1; have := h.2.2.2.1; omega
theorem cfl {tbl : Nat → Option FD} {i : Nat} {f : FD} (h : tbl i = some f) (k : Nat) (ws : List W) (M : Mem) : callF tbl (k+1) i ws M = runF (callF tbl k) f ws M := by simp [callF, h]
theorem eqB_str (s t : PySem.Str) : eqB (.str s) (.str t) = (s == t) := by rw [eqB]
theorem eqB_int (s t : Int) : eqB (.int s) (.int t) = (s == t) := by rw [eqB]
/-- the drawing program's defs -/
structure TD (tbl : Nat → Option FD) : Prop where
  h7 : tbl 7 = some f7
  h8 : tbl 8 = some f8
  h11 : tbl 11 = some f11
  h12 : tbl 12 = some f12
  h13 : tbl 13 = some f13
  h14 : tbl 14 = some f14
  h15 : tbl 15 = some f15
  h16 : tbl 16 = some f16
  h17 : tbl 17 = some f17
  h18 : tbl 18 = some f18
section
variable {tbl : Nat → Option FD} {M : Mem}
theorem c7 (T : TD tbl) (k : Nat) {l s : Int × Int} (hl : lenOk l) : callF tbl (k+1) 7 [.v (dP l), .v (dP s)] M = .ok (.v (.int (long l s))) M := by
  rw [cfl T.h7]
  simp [runF, f7, env0, dP, op2, idxD, L2.atI, L2.ixN, hl.nat1, hl.nat2, long]
theorem b8 (T : TD tbl) (k n0 : Nat) (s : Int × Int) (F : D) (f : Fct) (hf : fctOk f) (x5 x6 : Option W) :
    evSs (callF tbl (k+1)) n0 f8_b0 [some (.v F), some (.v (dP s)), some (.v (sW f.less "less" "same")), some (.v (dP f.one)), some (.v (dP f.other)), x5, x6] M = if keepsF f s = true then .nx [some (.v F), some (.v (dP s)), some (.v (sW f.less "less" "same")), some (.v (dP f.one)), some (.v (dP f.other)), some (.v (.int (long f.one s))), some (.v (.int (long f.other s)))] M else .rt (.v (.bl false)) M := by
  have e1 := c7 (M := M) T k (s := s) hf.1
  have e2 := c7 (M := M) T k (s := s) hf.2
  rcases f with ⟨b, l, m⟩
  simp only [] at e1 e2
  generalize hl : long l s = p at e1 ⊢
  generalize hm : long m s = q at e2 ⊢
  rcases Int.lt_trichotomy p q with h | h | h
  · have a1 : ¬ q < p := by omega
    have a2 : (p == q) = false := by simp; omega
    have a3 : ¬ p = q := by omega
    cases b <;> simp [f8_b0, e1, e2, op2, sW, keepsF, h, hl, hm, a1, a2, a3]
  · subst h
    cases b <;> simp [f8_b0, e1, e2, op2, sW, keepsF, hl, hm]
  · have a1 : ¬ p < q := by omega
    have a2 : (p == q) = false := by simp; omega
    have a3 : ¬ p = q := by omega
    cases b <;> simp [f8_b0, e1, e2, op2, sW, keepsF, h, hl, hm, a1, a2, a3]
theorem l8 (T : TD tbl) (k n0 : Nat) (s : Int × Int) (F : D) : ∀ (fs : List Fct) (hf : ∀ f ∈ fs, fctOk f) (x2 x3 x4 x5 x6 : Option W), ∃ y2 y3 y4 y5 y6 : Option W,
    loopS (callF tbl (k+1)) n0 (.t [2,3,4]) f8_b0 (fs.map dFct) [some (.v F), some (.v (dP s)), x2, x3, x4, x5, x6] M = if keeps fs s = true then .nx [some (.v F), some (.v (dP s)), y2, y3, y4, y5, y6] M else .rt (.v (.bl false)) M
  | [], _, x2, x3, x4, x5, x6 => ⟨x2, x3, x4, x5, x6, rfl⟩
  | f :: fs, hf, x2, x3, x4, x5, x6 => by
    obtain ⟨y2, y3, y4, y5, y6, ih⟩ := l8 T k n0 s F fs (fun g hg => hf g (by simp [hg])) (some (.v (sW f.less "less" "same"))) (some (.v (dP f.one))) (some (.v (dP f.other))) (some (.v (.int (long f.one s)))) (some (.v (.int (long f.other s))))
    refine ⟨y2, y3, y4, y5, y6, ?_⟩
    have hb := b8 (M := M) T k n0 s F f (hf f (by simp)) x5 x6
    have k1 : keeps (f :: fs) s = (keepsF f s && keeps fs s) := rfl
    rw [List.map_cons, k1]
    cases hk : keepsF f s with
    | true => rw [hk] at hb; rw [loopS_nx (v2 := _) (by rfl) hb, ih]; simp
    | false => rw [hk] at hb; rw [loopS_rt (v2 := _) (by rfl) hb]; simp
theorem c8 (T : TD tbl) (k : Nat) (fs : List Fct) (hf : ∀ f ∈ fs, fctOk f) (s : Int × Int) : callF tbl (k+2) 8 [.v (dFcts fs), .v (dP s)] M = .ok (.v (.bl (keeps fs s))) M := by
  obtain ⟨y2, y3, y4, y5, y6, ih⟩ := l8 (M := M) T k M.length s (dFcts fs) fs hf none none none none none
  rw [cfl T.h8]
  have e : items (dFcts fs) = some (fs.map dFct) := rfl
  cases h : keeps fs s <;> simp [f8, e, ih, h]
end
end P
end Bf

set_option Elab.async false
set_option linter.all false
namespace Bf
namespace P
open PySem
/-! ### codes of numbers, pairs, marks -/
def dMark (m : Nat × Bool) : D := .tup [.int m.1, sW m.2 "near" "far"]
def dMarks (ms : List (Nat × Bool)) : D := .tup (ms.map dMark)
theorem fits_all {n : Nat} {α : Type} (c : α → D) (xs : List α) (h : ∀ x ∈ xs, fits n (c x) = true) : (xs.map c).all (fits n) = true := by
  rw [List.all_eq_true]; intro y hy; obtain ⟨x, hx, rfl⟩ := List.mem_map.mp hy; exact h x hx
theorem fits_int (n : Nat) (i : Int) : fits n (.int i) = true := by cases n <;> rfl
theorem fits_dP (n : Nat) (p : Int × Int) : fits (n+1) (dP p) = true := by simp [fits, dP, fits_int]
theorem fits_sW (n : Nat) (b : Bool) {s t : PySem.Str} (h1 : PyData.strOk s = true) (h2 : PyData.strOk t = true) : fits n (sW b s t) = true := by cases b <;> cases n <;> simp [sW, fits, h1, h2]
theorem fits_mark (n : Nat) (m : Nat × Bool) : fits (n+1) (dMark m) = true := by
  simp [fits, dMark, fits_int, fits_sW n m.2 (s := "near") (t := "far") (by decide +kernel) (by decide +kernel)]
theorem fits_lst {n : Nat} {xs : List D} (h : xs.all (fits n) = true) : fits (n+1) (.lst xs) = true := h
theorem fits_tup {n : Nat} {xs : List D} (h : xs.all (fits n) = true) : fits (n+1) (.tup xs) = true := h
theorem sortable_of {α : Type} (c : α → D) (h1 : ∀ x, fits 20 (c x) = true) (h2 : ∀ x y, PySem.W.alike (pyD (c x)) (pyD (c y)) = true) (h3 : (∀ x, tupNE (c x) = true) ∨ ∀ x, noTup (c x) = true) (xs : List α) : sortable (xs.map c) = true := by
  unfold sortable
  rw [fits_all c xs fun x _ => h1 x]
  rw [Bool.and_eq_true, Bool.and_eq_true]
  refine ⟨⟨rfl, ?_⟩, ?_⟩
  · rw [List.all_map, List.all_eq_true]; intro x _
    show (xs.map c).all _ = true
    rw [List.all_map, List.all_eq_true]; intro y _; exact h2 x y
  · rw [Bool.or_eq_true]
    rcases h3 with h | h
    · exact .inl (by rw [List.all_map, List.all_eq_true]; intro x _; exact h x)
    · exact .inr (by rw [List.all_map, List.all_eq_true]; intro x _; exact h x)
theorem pyD_dP (p : Int × Int) : pyD (dP p) = .tuple [.int p.1, .int p.2] := by simp [pyD, dP, toPy, toPys]
theorem pyD_int (i : Int) : pyD (.int i) = .int i := by simp [pyD, toPy]
theorem pyD_mark (m : Nat × Bool) : pyD (dMark m) = .tuple [.int m.1, .str (if m.2 then "near" else "far")] := by simp [pyD, dMark, toPy, toPys, sW]
theorem sortable_dP (xs : List (Int × Int)) : sortable (xs.map dP) = true := sortable_of dP (fits_dP 19) (fun x y => by rw [pyD_dP, pyD_dP]; simp [PySem.W.alike, PySem.W.alikeAll]) (.inl fun _ => rfl) xs
theorem sortable_int (xs : List Int) : sortable (xs.map .int) = true := sortable_of .int (fits_int 20) (fun x y => by rw [pyD_int, pyD_int]; simp [PySem.W.alike]) (.inr fun _ => rfl) xs
theorem sortable_mark (xs : List (Nat × Bool)) : sortable (xs.map dMark) = true := sortable_of dMark (fits_mark 19) (fun x y => by rw [pyD_mark, pyD_mark]; simp [PySem.W.alike, PySem.W.alikeAll]) (.inl fun _ => rfl) xs
theorem itLt (a b : Int) : PyProof.Rows.itemLt (.inl a) (.inl b) = decide (a < b) := rfl
theorem tk_int (i : Int) : tk (.int i) = [.inl i] := by simp [tk, pyD_int, PySem.W.keyToks]
theorem tk_dP (p : Int × Int) : tk (dP p) = [.inl 1, .inl p.1, .inl 1, .inl p.2, .inl 0] := by simp [tk, pyD_dP, PySem.W.keyToks, PySem.W.keyToksAll]
theorem tk_mark (m : Nat × Bool) : tk (dMark m) = [.inl 1, .inl (m.1 : Int), .inl 1, .inr (if m.2 then ("near" : PySem.Str) else "far").cps.toList, .inl 0] := by simp [tk, pyD_mark, PySem.W.keyToks, PySem.W.keyToksAll]
theorem dLe_int {a b : Int} (h : a ≤ b) : dLe (.int a) (.int b) = true := by
  rw [dLe_eq, tk_int, tk_int, PyProof.Rows.lex_cons]
  have : ¬ b < a := by omega
  have e : PyProof.Rows.itemOrd.blt (.inl b) (.inl a) = decide (b < a) := rfl
  simp [itLt, this, PyProof.Rows.lexLt]
theorem dLe_dP {a b : Int × Int} (h : a.1 < b.1 ∨ a.1 = b.1 ∧ a.2 ≤ b.2) : dLe (dP a) (dP b) = true := by
  rw [dLe_eq, tk_dP, tk_dP, PyProof.Rows.lex_self]
  rcases h with h | ⟨h, h2⟩
  · rw [PyProof.Rows.lex_diff (by intro e; injection e; omega)]
    have e : PyProof.Rows.itemOrd.blt (.inl b.1) (.inl a.1) = decide (b.1 < a.1) := rfl
    have : ¬ b.1 < a.1 := by omega
    simp [itLt, this]
  · rw [h, PyProof.Rows.lex_self, PyProof.Rows.lex_self, PyProof.Rows.lex_cons]
    have e : PyProof.Rows.itemOrd.blt (.inl b.2) (.inl a.2) = decide (b.2 < a.2) := rfl
    have : ¬ b.2 < a.2 := by omega
    rw [e, PyProof.Rows.lex_irrefl]; simp [this]
theorem dLe_mark {a b : Nat × Bool} (h : a.1 < b.1 ∨ a.1 = b.1 ∧ a.2 = false ∧ b.2 = true) : dLe (dMark a) (dMark b) = true := by
  rw [dLe_eq, tk_mark, tk_mark, PyProof.Rows.lex_self]
  rcases h with h | ⟨h, h2, h3⟩
  · rw [PyProof.Rows.lex_diff (by intro e; injection e; omega)]
    have e : PyProof.Rows.itemOrd.blt (.inl (b.1 : Int)) (.inl (a.1 : Int)) = decide ((b.1 : Int) < a.1) := rfl
    have : ¬ (b.1 : Int) < a.1 := by omega
    rw [e]; simp; omega
  · rw [h, h2, h3, PyProof.Rows.lex_self, PyProof.Rows.lex_self]; decide +kernel
theorem inj_int {a b : Int} (h : tk (.int a) = tk (.int b)) : D.int a = .int b := by
  rw [tk_int, tk_int] at h; simp at h; rw [h]
theorem inj_dP {a b : Int × Int} (h : tk (dP a) = tk (dP b)) : dP a = dP b := by
  rw [tk_dP, tk_dP] at h; simp at h; simp [dP, h]
theorem inj_mark {a b : Nat × Bool} (h : tk (dMark a) = tk (dMark b)) : dMark a = dMark b := by
  rw [tk_mark, tk_mark] at h
  rcases a with ⟨i, x⟩; rcases b with ⟨j, y⟩
  simp only [List.cons.injEq, Sum.inl.injEq, Sum.inr.injEq] at h
  obtain ⟨_, h1, _, h2, _⟩ := h
  have : i = j := by omega
  subst this
  cases x <;> cases y
  · rfl
  · exact absurd (show ("far" : PySem.Str).cps.toList = ("near" : PySem.Str).cps.toList from h2) (by decide +kernel)
  · exact absurd (show ("near" : PySem.Str).cps.toList = ("far" : PySem.Str).cps.toList from h2) (by decide +kernel)
  · rfl
/-- sorted of coded things -/
theorem sort_code {α : Type} (c : α → D) (hi : ∀ a b, tk (c a) = tk (c b) → c a = c b) {xs ys : List α} (hp : xs.Perm ys) (hs : ys.Pairwise fun a b => dLe (c a) (c b) = true) : (xs.map c).mergeSort dLe = ys.map c := by
  refine sort_to (hp.map c) (List.pairwise_map.mpr hs) ?_
  intro a ha b hb h
  obtain ⟨x, _, rfl⟩ := List.mem_map.mp ha
  obtain ⟨y, _, rfl⟩ := List.mem_map.mp hb
  exact hi x y h
theorem atN {α : Type} (xs : List α) (i : Nat) : L2.atI xs (i : Int) = xs[i]? := by
  unfold L2.atI L2.ixN
  by_cases h : i < xs.length
  · simp [h]
  · simp [h]
theorem atM {α : Type} (xs : List α) : L2.atI xs (-1) = xs.getLast? := by
  unfold L2.atI L2.ixN
  cases xs with
  | nil => rfl
  | cons x xs =>
    have e : (-1 + ((xs.length : Int) + 1)).toNat = xs.length := by omega
    simp [List.getLast?_eq_getElem?, e]
    rw [if_pos (by omega)]; simp [e]
theorem allInt_map (ns : List Int) : allInt (ns.map .int) = some ns := by
  induction ns with
  | nil => rfl
  | cons n ns ih => rw [List.map_cons, allInt, ih]; rfl
theorem allBl_map (ns : List Bool) : allBl (ns.map .bl) = some ns := by
  induction ns with
  | nil => rfl
  | cons n ns ih => rw [List.map_cons, allBl, ih]; rfl
theorem eqD_ints (xs ys : List Int) : eqD (.lst (xs.map .int)) (.lst (ys.map .int)) = some (xs == ys) := by
  have f : ∀ zs : List Int, fits 20 (.lst (zs.map .int)) = true := fun zs => fits_lst (fits_all D.int zs fun x _ => fits_int _ _)
  have e : ∀ xs ys : List Int, eqBs (xs.map .int) (ys.map .int) = (xs == ys) := by
    intro xs
    induction xs with
    | nil => intro ys; cases ys <;> rfl
    | cons x xs ih => intro ys; cases ys with
      | nil => rfl
      | cons y ys => rw [List.map_cons, List.map_cons, eqBs, ih, eqB_int]; rfl
  have e2 : eqB (.lst (xs.map .int)) (.lst (ys.map .int)) = (xs == ys) := by rw [eqB, e]
  show (if (fits 20 (.lst (xs.map .int)) && fits 20 (.lst (ys.map .int))) = true then some (eqB (.lst (xs.map .int)) (.lst (ys.map .int))) else none) = _
  rw [f, f, e2]; rfl
theorem inB_ints (x : Int) (ys : List Int) : inB (.int x) (.lst (ys.map .int)) = some (ys.contains x) := by
  have f : fits 20 (.lst (ys.map .int)) = true := fits_lst (fits_all D.int ys fun x _ => fits_int _ _)
  simp only [inB, fits_int, f, Bool.and_self, if_true]
  congr 1
  induction ys with
  | nil => rfl
  | cons y ys ih =>
    have ih := ih (fits_lst (fits_all D.int ys fun x _ => fits_int _ _))
    rw [List.map_cons, List.any_cons, ih, eqB_int, List.contains_cons]
    congr 1
    rw [Bool.eq_iff_iff]; simp; exact eq_comm
end P
end Bf

set_option Elab.async false
set_option linter.all false
namespace Bf
namespace P
open PySem
/-! ### pieces: the plain laws -/
abbrev Pc := List (Int × Int)
/-- ascending, apart, none empty -/
def Norm (ps : Pc) : Prop := ps.Pairwise (fun a b => a.2 < b.1) ∧ ∀ p ∈ ps, p.1 < p.2
/-- cover of a doubled place -/
def cov (ps : Pc) (t : Int) : Bool := ps.any fun p => decide (2 * p.1 < t ∧ t < 2 * p.2)
def addL : Pc → Int → Int → Pc → Pc × Int × Int
  | [], lo, hi, acc => (acc, lo, hi)
  | (l, r) :: ps, lo, hi, acc => if r < lo ∨ hi < l then addL ps lo hi (acc ++ [(l, r)]) else addL ps (if l < lo then l else lo) (if r > hi then r else hi) acc
def ins : Pc → Int → Int → Pc
  | [], lo, hi => [(lo, hi)]
  | (l, r) :: ps, lo, hi => if r < lo then (l, r) :: ins ps lo hi else if hi < l then (lo, hi) :: (l, r) :: ps else ins ps (if l < lo then l else lo) (if r > hi then r else hi)
theorem Norm.tail {p : Int × Int} {ps : Pc} (h : Norm (p :: ps)) : Norm ps := ⟨(List.pairwise_cons.mp h.1).2, fun q hq => h.2 q (by simp [hq])⟩
theorem Norm.lt {p : Int × Int} {ps : Pc} (h : Norm (p :: ps)) : ∀ q ∈ ps, p.2 < q.1 := (List.pairwise_cons.mp h.1).1
theorem addL_skip : ∀ (ps : Pc) (lo hi : Int) (acc : Pc), (∀ p ∈ ps, hi < p.1) → addL ps lo hi acc = (acc ++ ps, lo, hi)
  | [], lo, hi, acc, _ => by simp [addL]
  | (l, r) :: ps, lo, hi, acc, h => by
    rw [addL, if_pos (.inr (h (l, r) (by simp)))]
    rw [addL_skip ps lo hi _ (fun p hp => h p (by simp [hp]))]
    simp
theorem addL_perm : ∀ (ps : Pc) (lo hi : Int) (acc : Pc), Norm ps → ((addL ps lo hi acc).1 ++ [(addL ps lo hi acc).2]).Perm (acc ++ ins ps lo hi)
  | [], lo, hi, acc, _ => List.Perm.refl _
  | (l, r) :: ps, lo, hi, acc, h => by
    rw [addL, ins]
    by_cases h1 : r < lo
    · rw [if_pos (.inl h1), if_pos h1]
      refine (addL_perm ps lo hi _ h.tail).trans ?_
      simp
    · rw [if_neg h1]
      by_cases h2 : hi < l
      · rw [if_pos (.inr h2), if_pos h2]
        have hr := h.2 (l, r) (by simp)
        rw [addL_skip ps lo hi _ (fun p hp => by have := h.lt p hp; simp at this hr; omega)]
        simp only [List.append_assoc]
        refine List.Perm.append_left acc ?_
        refine (List.perm_append_comm (l₁ := (l, r) :: ps) (l₂ := [(lo, hi)])).trans ?_
        exact List.Perm.refl _
      · rw [if_neg (by omega), if_neg h2]
        exact addL_perm ps _ _ _ h.tail
theorem ins_gt : ∀ (ps : Pc) (lo hi b : Int), (∀ p ∈ ps, b < p.1) → b < lo → ∀ p ∈ ins ps lo hi, b < p.1
  | [], lo, hi, b, _, h2 => by intro p hp; simp [ins] at hp; subst hp; exact h2
  | (l, r) :: ps, lo, hi, b, h1, h2 => by
    have hl := h1 (l, r) (by simp)
    rw [ins]
    by_cases c1 : r < lo
    · rw [if_pos c1]; intro p hp
      rcases List.mem_cons.mp hp with rfl | hp
      · exact hl
      · exact ins_gt ps lo hi b (fun q hq => h1 q (by simp [hq])) h2 p hp
    · rw [if_neg c1]
      by_cases c2 : hi < l
      · rw [if_pos c2]; intro p hp
        rcases List.mem_cons.mp hp with rfl | hp
        · exact h2
        · exact h1 p hp
      · rw [if_neg c2]
        exact ins_gt ps _ _ b (fun q hq => h1 q (by simp [hq])) (by simp at hl; split <;> omega)
theorem ins_norm : ∀ (ps : Pc) (lo hi : Int), Norm ps → lo < hi → Norm (ins ps lo hi)
  | [], lo, hi, _, h => ⟨by simp [ins], by intro p hp; simp [ins] at hp; subst hp; exact h⟩
  | (l, r) :: ps, lo, hi, h, h2 => by
    have hr : l < r := h.2 (l, r) (by simp)
    rw [ins]
    by_cases c1 : r < lo
    · rw [if_pos c1]
      have ih := ins_norm ps lo hi h.tail h2
      refine ⟨List.pairwise_cons.mpr ⟨fun q hq => ins_gt ps lo hi r (fun q hq => h.lt q hq) c1 q hq, ih.1⟩, ?_⟩
      intro p hp
      rcases List.mem_cons.mp hp with rfl | hp
      · exact hr
      · exact ih.2 p hp
    · rw [if_neg c1]
      by_cases c2 : hi < l
      · rw [if_pos c2]
        refine ⟨List.pairwise_cons.mpr ⟨fun q hq => ?_, h.1⟩, ?_⟩
        · rcases List.mem_cons.mp hq with rfl | hq
          · exact c2
          · have := h.lt q hq; simp at this ⊢; omega
        · intro p hp
          rcases List.mem_cons.mp hp with rfl | hp
          · exact h2
          · exact h.2 p hp
      · rw [if_neg c2]
        exact ins_norm ps _ _ h.tail (by split <;> split <;> omega)
theorem cov_cons (p : Int × Int) (ps : Pc) (t : Int) : cov (p :: ps) t = (decide (2 * p.1 < t ∧ t < 2 * p.2) || cov ps t) := rfl
theorem ins_cov : ∀ (ps : Pc) (lo hi t : Int), Norm ps → lo < hi → t % 2 = 1 → cov (ins ps lo hi) t = (decide (2 * lo < t ∧ t < 2 * hi) || cov ps t)
  | [], lo, hi, t, _, _, _ => rfl
  | (l, r) :: ps, lo, hi, t, h, h2, h3 => by
    have hr : l < r := h.2 (l, r) (by simp)
    rw [ins]
    by_cases c1 : r < lo
    · rw [if_pos c1, cov_cons, ins_cov ps lo hi t h.tail h2 h3, cov_cons]
      cases cov ps t <;> simp <;> rw [Bool.or_comm]
    · rw [if_neg c1]
      by_cases c2 : hi < l
      · rw [if_pos c2]; rfl
      · rw [if_neg c2, ins_cov ps _ _ t h.tail (by split <;> split <;> omega) h3, cov_cons]
        cases cov ps t
        · simp only [Bool.or_false]
          rw [← Bool.decide_or, decide_eq_decide]
          split <;> split <;> omega
        · simp
theorem ins_len : ∀ (ps : Pc) (lo hi : Int), (ins ps lo hi).length ≤ ps.length + 1
  | [], lo, hi => by simp [ins]
  | (l, r) :: ps, lo, hi => by
    rw [ins]; split
    · have := ins_len ps lo hi; simp; omega
    · split
      · simp
      · have := ins_len ps (if l < lo then l else lo) (if r > hi then r else hi); rw [List.length_cons]; omega
/-- what a cut leaves -/
def cutP (ps : Pc) (lo hi : Int) : Pc := (ps.flatMap fun p => [(p.1, if lo < p.2 then lo else p.2), (if hi > p.1 then hi else p.1, p.2)]).filter fun p => decide (p.1 < p.2)
theorem cutP_cons (p : Int × Int) (ps : Pc) (lo hi : Int) : cutP (p :: ps) lo hi = ([(p.1, if lo < p.2 then lo else p.2), (if hi > p.1 then hi else p.1, p.2)].filter fun p => decide (p.1 < p.2)) ++ cutP ps lo hi := by
  simp only [cutP, List.flatMap_cons, List.filter_append]
theorem cutP_in {ps : Pc} {lo hi : Int} {q : Int × Int} (h : q ∈ cutP ps lo hi) : q.1 < q.2 ∧ ∃ p ∈ ps, p.1 ≤ q.1 ∧ q.2 ≤ p.2 := by
  unfold cutP at h
  rw [List.mem_filter, List.mem_flatMap] at h
  obtain ⟨⟨p, hp, hq⟩, h2⟩ := h
  have h2 : q.1 < q.2 := by simpa using h2
  refine ⟨h2, p, hp, ?_⟩
  simp only [List.mem_cons, List.not_mem_nil, or_false] at hq
  rcases hq with rfl | rfl
  · simp only []; split <;> omega
  · simp only []; split <;> omega
theorem cutP_norm : ∀ (ps : Pc) (lo hi : Int), Norm ps → lo < hi → Norm (cutP ps lo hi)
  | [], lo, hi, _, _ => ⟨List.Pairwise.nil, fun _ h => nomatch h⟩
  | p :: ps, lo, hi, h, h2 => by
    have ih := cutP_norm ps lo hi h.tail h2
    have hr := h.2 p (by simp)
    refine ⟨?_, fun q hq => (cutP_in hq).1⟩
    rw [cutP_cons, List.pairwise_append]
    refine ⟨?_, ih.1, ?_⟩
    · have hm : (if lo < p.2 then lo else p.2) ≤ lo := by split <;> omega
      have hn : hi ≤ (if hi > p.1 then hi else p.1) := by split <;> omega
      generalize (if lo < p.2 then lo else p.2) = m at hm ⊢
      generalize (if hi > p.1 then hi else p.1) = n at hn ⊢
      by_cases c1 : p.1 < m <;> by_cases c2 : n < p.2 <;> simp [List.filter_cons, c1, c2]
      omega
    · intro a ha b hb
      obtain ⟨_, q, hq, h4, h5⟩ := cutP_in hb
      have := h.lt q hq
      have : a.2 ≤ p.2 := by
        have ha := (List.mem_filter.mp ha).1
        simp only [List.mem_cons, List.not_mem_nil, or_false] at ha
        rcases ha with rfl | rfl
        · simp only []; split <;> omega
        · simp only []; omega
      omega
theorem cutP_cov : ∀ (ps : Pc) (lo hi t : Int), lo < hi → t % 2 = 1 → cov (cutP ps lo hi) t = (cov ps t && !decide (2 * lo < t ∧ t < 2 * hi))
  | [], lo, hi, t, _, _ => rfl
  | p :: ps, lo, hi, t, h, h2 => by
    have ih := cutP_cov ps lo hi t h h2
    rw [cutP_cons, cov_cons]
    have e : cov (([(p.1, if lo < p.2 then lo else p.2), (if hi > p.1 then hi else p.1, p.2)].filter fun p => decide (p.1 < p.2)) ++ cutP ps lo hi) t = (cov ([(p.1, if lo < p.2 then lo else p.2), (if hi > p.1 then hi else p.1, p.2)].filter fun p => decide (p.1 < p.2)) t || cov (cutP ps lo hi) t) := by
      unfold cov; rw [List.any_append]
    rw [e, ih, Bool.and_or_distrib_right]
    congr 1
    have e2 : ∀ qs : Pc, cov (qs.filter fun p => decide (p.1 < p.2)) t = cov qs t := by
      intro qs
      induction qs with
      | nil => rfl
      | cons q qs ih =>
        rw [List.filter_cons, cov_cons]
        by_cases hq : q.1 < q.2
        · simp only [hq, decide_true, if_true]; rw [cov_cons, ih]
        · have : ¬ (2 * q.1 < t ∧ t < 2 * q.2) := by omega
          simp only [hq, decide_false, this]; simp; exact ih
    rw [e2]
    unfold cov
    simp only [List.any_cons, List.any_nil, Bool.or_false]
    rw [Bool.eq_iff_iff]
    simp only [Bool.or_eq_true, Bool.and_eq_true, Bool.not_eq_true', decide_eq_true_eq, decide_eq_false_iff_not]
    split <;> split <;> omega
theorem cutP_len (ps : Pc) (lo hi : Int) : (cutP ps lo hi).length ≤ 2 * ps.length := by
  refine Nat.le_trans (List.length_filter_le _ _) ?_
  induction ps with
  | nil => simp
  | cons p ps ih => rw [List.flatMap_cons, List.length_append, List.length_cons]; simp only [List.length_cons, List.length_nil]; omega
end P
end Bf

set_option Elab.async false
set_option linter.all false
namespace Bf
namespace P
open PySem
/-! ### the drawing program: pieces -/
@[simp] theorem gapp {M : Mem} {i : Nat} {x : D} (h : M[i]? = some x) (N : Mem) : (M ++ N)[i]? = some x := by
  have : i < M.length := (List.getElem?_eq_some_iff.mp h).1
  rw [List.getElem?_append_left this]; exact h
section
variable {tbl : Nat → Option FD} {M : Mem}
theorem b11a (cl : Nat → List W → Mem → Rs W) (n0 : Nat) (P : D) (lo hi l r : Int) (acc : Pc) (h : r < lo ∨ hi < l) (ha : acc.length < 16777216) :
    evSs cl n0 f11_b0 [some (.v P), some (.v (.int lo)), some (.v (.int hi)), some (.c M.length), some (.v (.int l)), some (.v (.int r))] (M ++ [.lst (acc.map dP)]) = .nx [some (.v P), some (.v (.int lo)), some (.v (.int hi)), some (.c M.length), some (.v (.int l)), some (.v (.int r))] (M ++ [.lst ((acc ++ [(l, r)]).map dP)]) := by
  have e : dP (l, r) = .tup [.int l, .int r] := rfl
  by_cases h1 : r < lo
  · simp [f11_b0, op2, h1, ha, e]
  · have h2 : hi < l := by omega
    simp [f11_b0, op2, h1, h2, ha, e]
theorem b11b (cl : Nat → List W → Mem → Rs W) (n0 : Nat) (P : D) (lo hi l r : Int) (N : Mem) (w : W) (h : ¬ (r < lo ∨ hi < l)) :
    evSs cl n0 f11_b0 [some (.v P), some (.v (.int lo)), some (.v (.int hi)), some w, some (.v (.int l)), some (.v (.int r))] N = .nx [some (.v P), some (.v (.int (if l < lo then l else lo))), some (.v (.int (if r > hi then r else hi))), some w, some (.v (.int l)), some (.v (.int r))] N := by
  have h1 : ¬ r < lo := by omega
  have h2 : ¬ hi < l := by omega
  simp [f11_b0, op2, h1, h2, gets]
theorem l11 (cl : Nat → List W → Mem → Rs W) (n0 : Nat) (P : D) : ∀ (ps : Pc) (lo hi : Int) (acc : Pc) (x4 x5 : Option W), acc.length + ps.length < 16777216 → ∃ y4 y5 : Option W,
    loopS cl n0 (.t [4, 5]) f11_b0 (ps.map dP) [some (.v P), some (.v (.int lo)), some (.v (.int hi)), some (.c M.length), x4, x5] (M ++ [.lst (acc.map dP)]) = .nx [some (.v P), some (.v (.int (addL ps lo hi acc).2.1)), some (.v (.int (addL ps lo hi acc).2.2)), some (.c M.length), y4, y5] (M ++ [.lst ((addL ps lo hi acc).1.map dP)])
  | [], lo, hi, acc, x4, x5, _ => ⟨x4, x5, rfl⟩
  | (l, r) :: ps, lo, hi, acc, x4, x5, hl => by
    rw [List.length_cons] at hl
    rw [addL, List.map_cons]
    by_cases h : r < lo ∨ hi < l
    · obtain ⟨y4, y5, ih⟩ := l11 cl n0 P ps lo hi (acc ++ [(l, r)]) (some (.v (.int l))) (some (.v (.int r))) (by simp; omega)
      refine ⟨y4, y5, ?_⟩
      rw [if_pos h, loopS_nx (v2 := _) (by rfl) (b11a cl n0 P lo hi l r acc h (by omega)), ih]
    · obtain ⟨y4, y5, ih⟩ := l11 cl n0 P ps (if l < lo then l else lo) (if r > hi then r else hi) acc (some (.v (.int l))) (some (.v (.int r))) (by omega)
      refine ⟨y4, y5, ?_⟩
      rw [if_neg h, loopS_nx (v2 := _) (by rfl) (b11b cl n0 P lo hi l r _ _ h), ih]
theorem c11 (T : TD tbl) (k : Nat) (ps : Pc) (lo hi : Int) (hn : Norm ps) (h : lo < hi) (hl : ps.length < 1000) : callF tbl (k+1) 11 [.v (.lst (ps.map dP)), .v (.int lo), .v (.int hi)] M = .ok (.v (.lst ((ins ps lo hi).map dP))) M := by
  obtain ⟨y4, y5, ih⟩ := l11 (M := M) (callF tbl k) M.length (.lst (ps.map dP)) ps lo hi [] none none (by simp; omega)
  have hp := addL_perm ps lo hi [] hn
  generalize addL ps lo hi [] = q at ih hp
  have hlen : q.1.length < 1002 := by
    have h1 := hp.length_eq
    have h2 := ins_len ps lo hi
    simp at h1
    omega
  have hs : (List.map dP q.1 ++ [D.tup [.int q.2.1, .int q.2.2]]).mergeSort dLe = (ins ps lo hi).map dP := by
    have := sort_code dP (fun _ _ => inj_dP) (xs := q.1 ++ [q.2]) (ys := ins ps lo hi) (by simpa using hp) ?_
    · rw [List.map_append] at this; exact this
    · refine (ins_norm ps lo hi hn h).1.imp_of_mem ?_
      intro a b ha _ hab
      have := (ins_norm ps lo hi hn h).2 a ha
      exact dLe_dP (.inl (by omega))
  have hso : sortable (List.map dP q.1 ++ [D.tup [.int q.2.1, .int q.2.2]]) = true := by
    have := sortable_dP (q.1 ++ [q.2]); rw [List.map_append] at this; exact this
  rw [List.map_nil] at ih
  rw [cfl T.h11]
  have hq : q.1.length ≤ 16777214 := by omega
  simp [f11, ih, hso, hs, Nat.le_of_lt (Nat.lt_of_lt_of_le hlen (show 1002 ≤ 16777215 by decide))]
theorem b12 (cl : Nat → List W → Mem → Rs W) (n0 : Nat) (P : D) (lo hi l r : Int) (acc : Pc) (ha : acc.length < 1000000) :
    evSs cl n0 f12_b0 [some (.v P), some (.v (.int lo)), some (.v (.int hi)), some (.c M.length), some (.v (.int l)), some (.v (.int r))] (M ++ [.lst (acc.map dP)]) = .nx [some (.v P), some (.v (.int lo)), some (.v (.int hi)), some (.c M.length), some (.v (.int l)), some (.v (.int r))] (M ++ [.lst ((acc ++ [(l, if lo < r then lo else r), (if hi > l then hi else l, r)]).map dP)]) := by
  have e : ∀ x y : Int, dP (x, y) = .tup [.int x, .int y] := fun _ _ => rfl
  have hl : acc.length + 2 ≤ 16777216 := by omega
  simp [f12_b0, hl, e]
theorem l12 (cl : Nat → List W → Mem → Rs W) (n0 : Nat) (P : D) (lo hi : Int) : ∀ (ps : Pc) (acc : Pc) (x4 x5 : Option W), acc.length + 2 * ps.length < 1000000 → ∃ y4 y5 : Option W,
    loopS cl n0 (.t [4, 5]) f12_b0 (ps.map dP) [some (.v P), some (.v (.int lo)), some (.v (.int hi)), some (.c M.length), x4, x5] (M ++ [.lst (acc.map dP)]) = .nx [some (.v P), some (.v (.int lo)), some (.v (.int hi)), some (.c M.length), y4, y5] (M ++ [.lst ((acc ++ ps.flatMap fun p => [(p.1, if lo < p.2 then lo else p.2), (if hi > p.1 then hi else p.1, p.2)]).map dP)])
  | [], acc, x4, x5, _ => ⟨x4, x5, by simp [loopS_nil]⟩
  | (l, r) :: ps, acc, x4, x5, hl => by
    rw [List.length_cons] at hl
    obtain ⟨y4, y5, ih⟩ := l12 cl n0 P lo hi ps (acc ++ [(l, if lo < r then lo else r), (if hi > l then hi else l, r)]) (some (.v (.int l))) (some (.v (.int r))) (by simp; omega)
    refine ⟨y4, y5, ?_⟩
    rw [List.map_cons, loopS_nx (v2 := _) (by rfl) (b12 cl n0 P lo hi l r acc (by omega)), ih]
    simp
theorem c12 (T : TD tbl) (k : Nat) (ps : Pc) (lo hi : Int) (hl : ps.length < 1000) : callF tbl (k+1) 12 [.v (.lst (ps.map dP)), .v (.int lo), .v (.int hi)] M = .ok (.n ((cutP ps lo hi).map dP)) M := by
  obtain ⟨y4, y5, ih⟩ := l12 (M := M) (callF tbl k) M.length (.lst (ps.map dP)) lo hi ps [] none none (by simp; omega)
  rw [List.map_nil, List.nil_append] at ih
  rw [cfl T.h12]
  have hlen : (ps.flatMap fun p => [(p.1, if lo < p.2 then lo else p.2), (if hi > p.1 then hi else p.1, p.2)]).length = 2 * ps.length := by
    clear ih hl
    induction ps with
    | nil => rfl
    | cons p ps ih => rw [List.flatMap_cons, List.length_append, ih, List.length_cons]; simp; omega
  have hc : cutP ps lo hi = (ps.flatMap fun p => [(p.1, if lo < p.2 then lo else p.2), (if hi > p.1 then hi else p.1, p.2)]).filter fun p => decide (p.1 < p.2) := rfl
  generalize (ps.flatMap fun p => [(p.1, if lo < p.2 then lo else p.2), (if hi > p.1 then hi else p.1, p.2)]) = F at ih hlen hc
  have h2 : ∀ N x0 x1 x2 x3 x4 x5, lcS (callF tbl k) (.tup (.cons (.var 4) (.cons (.var 5) .nil))) (.t [4, 5]) (.so (.b2 .lt (.var 4) (.var 5))) (F.map dP) [x0, x1, x2, x3, x4, x5] N = .ok (.n ((cutP ps lo hi).map dP)) N := by
    intro N x0 x1 x2 x3 x4 x5
    rw [hc]
    refine lcS_flt dP (fun p => decide (p.1 < p.2)) dP _ ?_ (by rw [hlen]; simp; omega)
    rintro ⟨a, b⟩ _
    by_cases h : a < b <;> simp [lcB, dP, bindT, setAll, wipeE, Tg.own, op2, h]
  simp [f12, ih, E.ro, Es.ro, OE.ro, h2]
theorem c14 (T : TD tbl) (k i : Nat) (d : D) (ps : Pc) (hd : fldW (.c i) .shown M = some (.v (.lst (ps.map dP)))) (hl : ps.length < 1000) : callF tbl (k+1) 14 [.c i] M = .ok (.n ((ps.flatMap fun p => [p.1, p.2]).map .int)) M := by
  rw [cfl T.h14]
  have h2 : lc2S (callF tbl k) (.var 2) (.v 1) (.v 2) (.e (.var 1)) (ps.map dP) [some (.c i), none, none] M = .ok (.n ((ps.flatMap fun p => [p.1, p.2]).map .int)) M := by
    have hlen : (ps.flatMap fun p => [p.1, p.2]).length = 2 * ps.length := by
      clear hd hl
      induction ps with
      | nil => rfl
      | cons p ps ih => rw [List.flatMap_cons, List.length_append, ih, List.length_cons]; simp; omega
    rw [lc2S, catL_ok (g := fun d => match d with | .tup xs => xs | _ => [])]
    · have e : (ps.map dP).flatMap (fun d => match d with | .tup xs => xs | _ => []) = (ps.flatMap fun p => [p.1, p.2]).map .int := by
        clear hd hl hlen
        induction ps with
        | nil => rfl
        | cons p ps ih => rw [List.map_cons, List.flatMap_cons, ih, List.flatMap_cons, List.map_append]; rfl
      rw [e]; simp [hlen]; omega
    · intro x hx
      obtain ⟨p, _, rfl⟩ := List.mem_map.mp hx
      simp [bindT, wipeE, Tg.own, dP, mapL, optC]
  simp [f14, hd, h2]
end
end P
end Bf

set_option Elab.async false
set_option linter.all false
namespace Bf
namespace P
open PySem
/-! ### dicts by indexes -/
def kI (i : Nat) : L2.Key := .inl (i : Int)
@[simp] theorem kI_inj {i j : Nat} : (kI i = kI j) ↔ i = j := by unfold kI; constructor <;> intro h <;> simp at * <;> omega
@[simp] theorem keyD_i (i : Nat) : keyD (.int (i : Int)) = some (kI i) := rfl
@[simp] theorem dKey_i (i : Nat) : dKey (kI i) = .int (i : Int) := rfl
def lkB {α : Type} : List (Nat × α) → Nat → Option α
  | [], _ => none
  | (j, x) :: bs, i => if j = i then some x else lkB bs i
def dKB {α : Type} (c : α → D) (bs : List (Nat × α)) : D := .dK (bs.map fun b => kI b.1) (bs.map fun b => c b.2)
section
variable {α : Type} (c : α → D)
theorem look_code : ∀ (bs : List (Nat × α)) (i : Nat), look (bs.map fun b => kI b.1) (bs.map fun b => c b.2) (kI i) = (lkB bs i).map c
  | [], _ => rfl
  | (j, x) :: bs, i => by
    rw [List.map_cons, List.map_cons, look, lkB]
    by_cases h : j = i
    · simp [h]
    · simp [h, look_code bs i]
theorem put_new : ∀ (bs : List (Nat × α)) (i : Nat) (x : α), (∀ b ∈ bs, b.1 ≠ i) → put (bs.map fun b => kI b.1) (bs.map fun b => c b.2) (kI i) (c x) = ((bs ++ [(i, x)]).map (fun b => kI b.1), (bs ++ [(i, x)]).map fun b => c b.2)
  | [], _, _, _ => rfl
  | (j, y) :: bs, i, x, h => by
    have hj : j ≠ i := h (j, y) (by simp)
    rw [List.map_cons, List.map_cons, put, if_neg (by simp [hj]), put_new bs i x (fun b hb => h b (by simp [hb]))]
    rfl
theorem put_last : ∀ (bs : List (Nat × α)) (i : Nat) (x y : α), (∀ b ∈ bs, b.1 ≠ i) → put ((bs ++ [(i, x)]).map fun b => kI b.1) ((bs ++ [(i, x)]).map fun b => c b.2) (kI i) (c y) = ((bs ++ [(i, y)]).map (fun b => kI b.1), (bs ++ [(i, y)]).map fun b => c b.2)
  | [], i, x, y, _ => by simp [put]
  | (j, z) :: bs, i, x, y, h => by
    have hj : j ≠ i := h (j, z) (by simp)
    rw [List.cons_append, List.map_cons, List.map_cons, put, if_neg (by simp [hj]), put_last bs i x y (fun b hb => h b (by simp [hb]))]
    rfl
theorem zip_code : ∀ (bs : List (Nat × α)), zipKD (bs.map fun b => kI b.1) (bs.map fun b => c b.2) = bs.map fun b => .tup [.int b.1, c b.2]
  | [] => rfl
  | (j, x) :: bs => by rw [List.map_cons, List.map_cons, zipKD, zip_code bs]; rfl
theorem putD_new (bs : List (Nat × α)) (i : Nat) (x : α) (h : ∀ b ∈ bs, b.1 ≠ i) (hl : bs.length < 1000) : putD (dKB c bs) (.int i) (c x) = some (dKB c (bs ++ [(i, x)])) := by
  have h2 : bs.length < 16777216 := by omega
  simp only [dKB, putD, keyD_i, Option.bind_some, List.length_map, LIMe, h2, if_true, put_new c bs i x h]
theorem putD_last (bs : List (Nat × α)) (i : Nat) (x y : α) (h : ∀ b ∈ bs, b.1 ≠ i) (hl : bs.length < 1000) : putD (dKB c (bs ++ [(i, x)])) (.int i) (c y) = some (dKB c (bs ++ [(i, y)])) := by
  have h2 : (bs ++ [(i, x)]).length < 16777216 := by simp; omega
  simp only [dKB, putD, keyD_i, Option.bind_some, List.length_map, LIMe, h2, if_true, put_last c bs i x y h]
theorem idx_code (bs : List (Nat × α)) (i : Nat) : idxD (dKB c bs) (.int i) = (lkB bs i).map c := by
  simp only [dKB, idxD, keyD_i, Option.bind_some, look_code]
theorem in_code (bs : List (Nat × α)) (i : Nat) : inB (.int i) (dKB c bs) = some (lkB bs i).isSome := by
  simp only [dKB, inB, keyD_i, Option.map_some, look_code, Option.isSome_map]
theorem lkB_mem : ∀ {bs : List (Nat × α)} {i : Nat} {x : α}, lkB bs i = some x → (i, x) ∈ bs
  | (j, y) :: bs, i, x, h => by
    rw [lkB] at h
    by_cases hj : j = i
    · simp [hj] at h; simp [hj, h]
    · simp [hj] at h; simp [lkB_mem h]
theorem lkB_of : ∀ {bs : List (Nat × α)} {i : Nat} {x : α}, (bs.map (·.1)).Nodup → (i, x) ∈ bs → lkB bs i = some x
  | (j, y) :: bs, i, x, hn, h => by
    rw [List.map_cons, List.nodup_cons] at hn
    rw [lkB]
    rcases List.mem_cons.mp h with h | h
    · injection h with h1 h2; simp [h1, h2]
    · have : j ≠ i := fun e => hn.1 (by rw [e]; exact List.mem_map.mpr ⟨(i, x), h, rfl⟩)
      simp [this, lkB_of hn.2 h]
end
/-! ### the run by value -/
abbrev Bars := List (Nat × (Int × Int))
abbrev Marks := List (Nat × Bool)
structure RunS where
  shown : Pc
  bars : Bars
  fm : List (Nat × Option Marks)
  ho : List (Nat × List Marks)
def dFM : Option Marks → D
  | none => .non
  | some ms => dMarks ms
def dHo (h : List Marks) : D := .lst (h.map dMarks)
def dRun (r : RunS) : D := .ins 11 [.shown, .bars, .fmarks, .holders] [.lst (r.shown.map dP), dKB dP r.bars, dKB dFM r.fm, dKB dHo r.ho]
def faces (ps : Pc) : List Int := ps.flatMap fun p => [p.1, p.2]
def srtK (bs : Bars) : List Nat := (bs.map (·.1)).mergeSort (fun a b => decide (a ≤ b))
def markOf (i : Nat) (p : Int) (b : Int × Int) : Marks := (if b.2 = p then [(i, false)] else []) ++ (if b.1 = p then [(i, true)] else [])
def marksAt (bs : Bars) (p : Int) : Marks := (srtK bs).flatMap fun i => match lkB bs i with
  | some b => markOf i p b
  | none => []
def placeOf (shown : Pc) (bars : Bars) : Nm → Option Int
  | .start => some 0
  | .count l k => (if l then faces shown else (faces shown).reverse)[k]?
  | .ende j n => match lkB bars j with
    | none => none
    | some b => if (faces shown).contains (if n then b.1 else b.2) then some (if n then b.1 else b.2) else none
  | .beside j l => match lkB bars j with
    | none => none
    | some b => if l then ((faces shown).filter fun f => decide (f < b.2)).getLast? else ((faces shown).filter fun f => decide (b.2 < f)).head?
theorem srtK_lt {bs : Bars} (h : (bs.map (·.1)).Nodup) : (srtK bs).Pairwise (· < ·) := by
  have h1 : (srtK bs).Pairwise fun a b => decide (a ≤ b) = true := List.pairwise_mergeSort (by intro a b c; simp; omega) (by intro a b; simp; omega) _
  have h2 : (srtK bs).Nodup := (List.mergeSort_perm _ _).nodup_iff.mpr h
  refine (h1.and h2).imp ?_
  intro a b ⟨h3, h4⟩
  have := of_decide_eq_true h3
  omega
theorem srtK_mem {bs : Bars} {i : Nat} : i ∈ srtK bs ↔ ∃ b, (i, b) ∈ bs := by
  unfold srtK; rw [(List.mergeSort_perm _ _).mem_iff, List.mem_map]
  constructor
  · rintro ⟨⟨j, b⟩, h, rfl⟩; exact ⟨b, h⟩
  · rintro ⟨b, h⟩; exact ⟨(i, b), h, rfl⟩
def mLt (a b : Nat × Bool) : Prop := a.1 < b.1 ∨ a.1 = b.1 ∧ a.2 = false ∧ b.2 = true
theorem marks_lt {bs : Bars} (h : (bs.map (·.1)).Nodup) (p : Int) : (marksAt bs p).Pairwise mLt := by
  unfold marksAt
  rw [List.pairwise_flatMap]
  refine ⟨?_, ?_⟩
  · intro i _
    cases lkB bs i with
    | none => exact List.Pairwise.nil
    | some b =>
      simp only [markOf]
      split <;> split <;> simp [mLt]
  · refine (srtK_lt h).imp ?_
    intro a b hab x hx y hy
    have e : ∀ i, ∀ z ∈ (match lkB bs i with | some b => markOf i p b | none => []), z.1 = i := by
      intro i z hz
      cases hi : lkB bs i with
      | none => rw [hi] at hz; cases hz
      | some b =>
        rw [hi] at hz; simp only [markOf, List.mem_append] at hz
        rcases hz with hz | hz <;> split at hz <;> simp at hz <;> rw [hz]
    left; rw [e a x hx, e b y hy]; exact hab
theorem marks_mem {bs : Bars} (h : (bs.map (·.1)).Nodup) {p : Int} {i : Nat} {n : Bool} : (i, n) ∈ marksAt bs p ↔ ∃ b, (i, b) ∈ bs ∧ (if n = true then b.1 else b.2) = p := by
  unfold marksAt
  rw [List.mem_flatMap]
  constructor
  · rintro ⟨j, _, hj2⟩
    cases hb : lkB bs j with
    | none => rw [hb] at hj2; cases hj2
    | some b =>
      rw [hb] at hj2
      simp only [markOf, List.mem_append] at hj2
      rcases hj2 with h2 | h2
      · split at h2
        · rename_i he; simp at h2; obtain ⟨rfl, rfl⟩ := h2; exact ⟨b, lkB_mem hb, by simp [he]⟩
        · cases h2
      · split at h2
        · rename_i he; simp at h2; obtain ⟨rfl, rfl⟩ := h2; exact ⟨b, lkB_mem hb, by simp [he]⟩
        · cases h2
  · rintro ⟨b, hb, he⟩
    refine ⟨i, srtK_mem.mpr ⟨b, hb⟩, ?_⟩
    rw [lkB_of h hb]
    simp only [markOf, List.mem_append]
    cases n with
    | true => right; simp at he; simp [he]
    | false => left; simp at he; simp [he]
theorem mLt_nodup {ms : Marks} (h : ms.Pairwise mLt) : ms.Nodup := by
  refine h.imp ?_
  rintro ⟨a, x⟩ ⟨b, y⟩ h e
  injection e with e1 e2; subst e1; subst e2
  rcases h with h | ⟨_, h1, h2⟩
  · simp at h
  · simp at h1 h2; rw [h1] at h2; cases h2
/-- what the program sorts -/
theorem marks_perm {bs : Bars} (h : (bs.map (·.1)).Nodup) (p : Int) : (((bs.filter fun b => decide (b.2.1 = p)).map fun b => (b.1, true)) ++ ((bs.filter fun b => decide (b.2.2 = p)).map fun b => (b.1, false))).Perm (marksAt bs p) := by
  have hb : bs.Pairwise fun a b => a.1 ≠ b.1 := List.pairwise_map.mp h
  have hn : ∀ (q : Nat × (Int × Int) → Bool) (k : Bool), ((bs.filter q).map fun b => (b.1, k)).Nodup := by
    intro q k
    refine List.pairwise_map.mpr ((hb.filter q).imp ?_)
    intro a b hab e; injection e with e1; exact hab e1
  refine (List.perm_ext_iff_of_nodup ?_ (mLt_nodup (marks_lt h p))).mpr ?_
  · refine List.nodup_append.mpr ⟨hn _ _, hn _ _, ?_⟩
    intro a ha b hb e
    obtain ⟨_, _, rfl⟩ := List.mem_map.mp ha
    obtain ⟨_, _, rfl⟩ := List.mem_map.mp hb
    injection e with _ e2; cases e2
  · rintro ⟨i, n⟩
    rw [marks_mem h, List.mem_append, List.mem_map, List.mem_map]
    constructor
    · rintro (⟨⟨j, b⟩, hj, e⟩ | ⟨⟨j, b⟩, hj, e⟩)
      · injection e with e1 e2; subst e1; subst e2
        obtain ⟨h1, h2⟩ := List.mem_filter.mp hj
        exact ⟨b, h1, by simpa using h2⟩
      · injection e with e1 e2; subst e1; subst e2
        obtain ⟨h1, h2⟩ := List.mem_filter.mp hj
        exact ⟨b, h1, by simpa using h2⟩
    · rintro ⟨b, hb, he⟩
      cases n with
      | true => left; exact ⟨(i, b), List.mem_filter.mpr ⟨hb, by simpa using he⟩, rfl⟩
      | false => right; exact ⟨(i, b), List.mem_filter.mpr ⟨hb, by simpa using he⟩, rfl⟩
theorem marks_sort {bs : Bars} (h : (bs.map (·.1)).Nodup) (p : Int) : ((((bs.filter fun b => decide (b.2.1 = p)).map fun b => (b.1, true)) ++ ((bs.filter fun b => decide (b.2.2 = p)).map fun b => (b.1, false))).map dMark).mergeSort dLe = (marksAt bs p).map dMark :=
  sort_code dMark (fun _ _ => inj_mark) (marks_perm h p) ((marks_lt h p).imp dLe_mark)
end P
end Bf

set_option Elab.async false
set_option linter.all false
namespace Bf
namespace P
open PySem
/-! ### the drawing program: marks, places -/
@[simp] theorem fld_shown {M : Mem} {i : Nat} {r : RunS} (h : M[i]? = some (dRun r)) : fldW (.c i) .shown M = some (.v (.lst (r.shown.map dP))) := by simp [fldW, h, dRun, okF, owned, look]
@[simp] theorem fld_bars {M : Mem} {i : Nat} {r : RunS} (h : M[i]? = some (dRun r)) : fldW (.c i) .bars M = some (.f i .bars) := by simp [fldW, h, dRun, okF, owned, look]
@[simp] theorem fld_fm {M : Mem} {i : Nat} {r : RunS} (h : M[i]? = some (dRun r)) : fldW (.c i) .fmarks M = some (.f i .fmarks) := by simp [fldW, h, dRun, okF, owned, look]
@[simp] theorem fld_ho {M : Mem} {i : Nat} {r : RunS} (h : M[i]? = some (dRun r)) : fldW (.c i) .holders M = some (.f i .holders) := by simp [fldW, h, dRun, okF, owned, look]
theorem look_bars {r : RunS} : look [Fd.shown, Fd.bars, Fd.fmarks, Fd.holders] [.lst (r.shown.map dP), dKB dP r.bars, dKB dFM r.fm, dKB dHo r.ho] .bars = some (dKB dP r.bars) := by simp [look]
theorem get_bars {M : Mem} {i : Nat} {r : RunS} (h : M[i]? = some (dRun r)) : W.get M (.f i .bars) = some (dKB dP r.bars) := by simp only [W.get, h]; exact look_bars
theorem beqN {a b : Int} (h : ¬ a = b) : (a == b) = false := by simp [h]
theorem isPv (i : Nat) : isPath (.var i) = true := rfl
theorem isPf (i : Nat) (g : Fd) : isPath (.fld (.var i) g) = true := rfl
section
variable {tbl : Nat → Option FD} {M : Mem}
theorem c15 (T : TD tbl) (k i : Nat) (r : RunS) (p : Int) (h : M[i]? = some (dRun r)) (hn : (r.bars.map (·.1)).Nodup) (hl : r.bars.length < 1000) : callF tbl (k+1) 15 [.c i, .v (.int p)] M = .ok (.v (dMarks (marksAt r.bars p))) M := by
  rw [cfl T.h15]
  have f1 : ∀ N x2 x3 x4, lcS (callF tbl k) (.tup (.cons (.var 3) (.cons (.glo "NEAR" (.str "near")) .nil))) (.t [3, 4]) (.so (.b2 .eq (.idx (.var 4) (.lit (.int 0))) (.var 1))) (r.bars.map fun b => .tup [.int b.1, dP b.2]) [some (.c i), some (.v (.int p)), x2, x3, x4] N = .ok (.n (((r.bars.filter fun b => decide (b.2.1 = p)).map fun b => (b.1, true)).map dMark)) N := by
    intro N x2 x3 x4
    rw [List.map_map]
    refine lcS_flt (α := Nat × (Int × Int)) _ (fun b => decide (b.2.1 = p)) _ _ ?_ (by simp; omega)
    rintro ⟨j, a, b⟩ _
    by_cases hp : a = p
    · simp [lcB, dP, bindT, setAll, wipeE, Tg.own, op2, hp, idxD, L2.atI, L2.ixN, dMark, sW]
    · simp [lcB, dP, bindT, setAll, wipeE, Tg.own, op2, hp, beqN hp, idxD, L2.atI, L2.ixN, dMark, sW]
  have f2 : ∀ N x2 x3 x4, lcS (callF tbl k) (.tup (.cons (.var 3) (.cons (.glo "FAR" (.str "far")) .nil))) (.t [3, 4]) (.so (.b2 .eq (.idx (.var 4) (.lit (.int 1))) (.var 1))) (r.bars.map fun b => .tup [.int b.1, dP b.2]) [some (.c i), some (.v (.int p)), x2, x3, x4] N = .ok (.n (((r.bars.filter fun b => decide (b.2.2 = p)).map fun b => (b.1, false)).map dMark)) N := by
    intro N x2 x3 x4
    rw [List.map_map]
    refine lcS_flt (α := Nat × (Int × Int)) _ (fun b => decide (b.2.2 = p)) _ _ ?_ (by simp; omega)
    rintro ⟨j, a, b⟩ _
    by_cases hp : b = p
    · simp [lcB, dP, bindT, setAll, wipeE, Tg.own, op2, hp, idxD, L2.atI, L2.ixN, dMark, sW]
    · simp [lcB, dP, bindT, setAll, wipeE, Tg.own, op2, hp, beqN hp, idxD, L2.atI, L2.ixN, dMark, sW]
  have hs := marks_sort hn p
  rw [List.map_append] at hs
  have hq := sortable_mark (((r.bars.filter fun b => decide (b.2.1 = p)).map fun b => (b.1, true)) ++ ((r.bars.filter fun b => decide (b.2.2 = p)).map fun b => (b.1, false)))
  rw [List.map_append] at hq
  have l1 : (((r.bars.filter fun b => decide (b.2.1 = p)).map fun b => (b.1, true)).map dMark).length ≤ 1000 := by
    simp only [List.length_map]; have := List.length_filter_le (fun b : Nat × (Int × Int) => decide (b.2.1 = p)) r.bars; omega
  have l2 : (((r.bars.filter fun b => decide (b.2.2 = p)).map fun b => (b.1, false)).map dMark).length ≤ 1000 := by
    simp only [List.length_map]; have := List.length_filter_le (fun b : Nat × (Int × Int) => decide (b.2.2 = p)) r.bars; omega
  generalize (((r.bars.filter fun b => decide (b.2.1 = p)).map fun b => (b.1, true)).map dMark) = A at f1 hs hq l1
  generalize (((r.bars.filter fun b => decide (b.2.2 = p)).map fun b => (b.1, false)).map dMark) = B at f2 hs hq l2
  have l3 : A.length + B.length ≤ 16777216 := by omega
  have g1 := get_bars h
  have h2 : (M ++ [D.lst A])[i]? = some (dRun r) := gapp h _
  have g2 := get_bars h2
  rw [dKB] at g1 g2
  simp [f15, isPf, h, h2, g1, g2, fld_bars h, fld_bars h2, zip_code, E.ro, Es.ro, OE.ro, f1, f2, l3, hq, hs, dMarks]
theorem strOkS : PyData.strOk ("start" : PySem.Str) = true ∧ PyData.strOk ("count" : PySem.Str) = true ∧ PyData.strOk ("end" : PySem.Str) = true ∧ PyData.strOk ("beside" : PySem.Str) = true ∧ PyData.strOk ("left" : PySem.Str) = true ∧ PyData.strOk ("right" : PySem.Str) = true ∧ PyData.strOk ("near" : PySem.Str) = true ∧ PyData.strOk ("far" : PySem.Str) = true := by decide +kernel
theorem fits_nm (n : Nat) (m : Nm) : fits (n+1) (dNm m) = true := by
  obtain ⟨h1, h2, h3, h4, h5, h6, h7, h8⟩ := strOkS
  cases m with
  | start => cases n <;> simp [fits, dNm, h1]
  | count l k => cases n <;> simp [fits, dNm, h2, fits_sW _ l h5 h6]
  | ende j b => cases n <;> simp [fits, dNm, h3, fits_sW _ b h7 h8]
  | beside j l => cases n <;> simp [fits, dNm, h4, fits_sW _ l h5 h6]
def isStart : Nm → Bool
  | .start => true
  | _ => false
theorem eqD_start (m : Nm) : eqD (dNm m) (.tup [.str "start"]) = some (isStart m) := by
  have h1 := fits_nm 19 m
  have h2 := fits_nm 19 .start
  have e : eqB (dNm m) (.tup [.str "start"]) = isStart m := by
    cases m <;> simp [dNm, isStart, eqB, eqBs]
  have : eqD (dNm m) (.tup [.str "start"]) = if (fits 20 (dNm m) && fits 20 (dNm .start)) = true then some (eqB (dNm m) (.tup [.str "start"])) else none := by cases m <;> rfl
  rw [this, h1, h2, e]; rfl
end
end P
end Bf

set_option Elab.async false
set_option linter.all false
namespace Bf
namespace P
open PySem
/-! ### the drawing program: places found -/
def dPl : Option Int → D
  | none => .non
  | some p => .int p
theorem ixD_l (xs : List D) (i : Nat) : idxD (.lst xs) (.int (i : Int)) = xs[i]? := atN xs i
theorem ixD_t (xs : List D) (i : Nat) : idxD (.tup xs) (.int (i : Int)) = xs[i]? := atN xs i
@[simp] theorem ix30 (a b c : D) : idxD (.tup [a, b, c]) (.int 0) = some a := rfl
@[simp] theorem ix31 (a b c : D) : idxD (.tup [a, b, c]) (.int 1) = some b := rfl
@[simp] theorem ix32 (a b c : D) : idxD (.tup [a, b, c]) (.int 2) = some c := rfl
@[simp] theorem ix20 (a b : D) : idxD (.tup [a, b]) (.int 0) = some a := rfl
@[simp] theorem ix21 (a b : D) : idxD (.tup [a, b]) (.int 1) = some b := rfl
section
variable {tbl : Nat → Option FD} {M : Mem}
theorem c16 (T : TD tbl) (k i : Nat) (r : RunS) (h : M[i]? = some (dRun r)) (hl : r.shown.length < 1000) (m : Nm) : callF tbl (k+2) 16 [.c i, .v (dNm m)] M = .ok (.v (dPl (placeOf r.shown r.bars m))) M := by
  have e14 : callF tbl (k+1) 14 [.c i] M = .ok (.n ((faces r.shown).map .int)) M := c14 T k i .non r.shown (fld_shown h) hl
  have hlen : (faces r.shown).length ≤ 2000 := by
    have : ∀ ps : Pc, (faces ps).length = 2 * ps.length := by
      intro ps; unfold faces
      induction ps with
      | nil => rfl
      | cons p ps ih => rw [List.flatMap_cons, List.length_append, ih, List.length_cons]; simp; omega
    rw [this]; omega
  have es := eqD_start m
  have hc : M[i]? = some (.ins 11 [.shown, .bars, .fmarks, .holders] [.lst (r.shown.map dP), dKB dP r.bars, dKB dFM r.fm, dKB dHo r.ho]) := h
  have gb := get_bars h
  have fb := fld_bars h
  rw [cfl T.h16]
  generalize hfs : faces r.shown = fs at e14 hlen
  cases m with
  | start =>
    simp only [dNm, isStart] at es
    simp [f16, dNm, op2, es, placeOf, dPl]
  | count l n =>
    simp only [dNm, isStart] at es
    cases l with
    | true =>
      rw [show sW true "left" "right" = .str "left" from rfl] at es
      by_cases hn : n < fs.length
      · simp [f16, dNm, op2, es, hc, e14, sW, placeOf, hfs, hn, ixD_l, dPl]
      · have h0 : fs[n]? = none := by simp; omega
        simp [f16, dNm, op2, es, hc, e14, sW, placeOf, hfs, hn, h0, ixD_l, dPl]
    | false =>
      rw [show sW false "left" "right" = .str "right" from rfl] at es
      by_cases hn : n < fs.length
      · have h0 : fs.reverse[n]? = some (fs.reverse[n]'(by simpa using hn)) := by simp [hn]
        have h1 : (List.map D.int fs).reverse = List.map D.int fs.reverse := by rw [List.map_reverse]
        simp [f16, dNm, op2, es, hc, e14, sW, placeOf, hfs, hn, h1, ixD_l, h0, dPl, -List.map_reverse, -List.getElem?_reverse, -List.getElem_reverse]
      · have h0 : fs.reverse[n]? = none := by simp; omega
        simp [f16, dNm, op2, es, hc, e14, sW, placeOf, hfs, hn, h0, ixD_l, dPl, -List.map_reverse, -List.getElem?_reverse]
  | ende j n =>
    simp only [dNm, isStart] at es
    have e2 : sW n "near" "far" = .str (if n then "near" else "far") := rfl
    cases hb : lkB r.bars j with
    | none => simp [f16, dNm, op2, es, hc, e14, placeOf, hfs, gb, fb, in_code, hb, dPl]
    | some b =>
      cases n with
      | true =>
        rw [show sW true "near" "far" = .str "near" from rfl] at es
        cases hcn : fs.contains b.1 <;> simp [f16, dNm, op2, es, hc, e14, placeOf, hfs, gb, fb, in_code, idx_code, hb, dPl, sW, dP, bindT, setAll, inB_ints, hcn, -List.contains_eq_mem]
      | false =>
        rw [show sW false "near" "far" = .str "far" from rfl] at es
        cases hcn : fs.contains b.2 <;> simp [f16, dNm, op2, es, hc, e14, placeOf, hfs, gb, fb, in_code, idx_code, hb, dPl, sW, dP, bindT, setAll, inB_ints, hcn, -List.contains_eq_mem]
  | beside j l =>
    simp only [dNm, isStart] at es
    cases hb : lkB r.bars j with
    | none => simp [f16, dNm, op2, es, hc, e14, placeOf, hfs, gb, fb, in_code, hb, dPl]
    | some b =>
      cases l with
      | true =>
        rw [show sW true "left" "right" = .str "left" from rfl] at es
        have f1 : ∀ x3 x4 x6 x7, lcS (callF tbl (k+1)) (.var 7) (.v 7) (.so (.ite (.b2 .eq (.idx (.var 1) (.lit (.int 2))) (.glo "LEFT" (.str "left"))) (.b2 .lt (.var 7) (.var 5)) (.b2 .gt (.var 7) (.var 5)))) (fs.map .int) [some (.c i), some (.v (.tup [.str "beside", .int j, .str "left"])), some (.v (.lst (fs.map .int))), x3, x4, some (.v (.int b.2)), x6, x7] M = .ok (.n ((fs.filter fun f => decide (f < b.2)).map .int)) M := by
          intro x3 x4 x6 x7
          refine lcS_flt D.int (fun f => decide (f < b.2)) D.int fs ?_ (by simp; omega)
          intro x _
          by_cases hx : x < b.2 <;> simp [lcB, bindT, wipeE, Tg.own, op2, hx]
        generalize hgs : (fs.filter fun f => decide (f < b.2)) = gs at f1
        have e0 := eqD_ints gs []
        rw [List.map_nil] at e0
        cases gs with
        | nil =>
          rw [List.map_nil, show (([] : List Int) == []) = true from rfl] at e0
          simp [f16, dNm, op2, es, hc, e14, placeOf, hfs, gb, fb, in_code, idx_code, hb, dPl, sW, dP, bindT, setAll, f1, e0, hgs]
        | cons g gs =>
          have hn : ((g :: gs : List Int) == []) = false := rfl
          rw [hn, List.map_cons] at e0
          have a0 : idxD (.lst (.int g :: gs.map .int)) (.int 0) = some (.int g) := ixD_l _ 0
          have a1 : idxD (.lst (.int g :: gs.map .int)) (.int (-1)) = some (.int ((g :: gs).getLast (by simp))) := by
            show L2.atI _ _ = _
            rw [atM, ← List.map_cons (f := D.int), List.getLast?_map, List.getLast?_eq_some_getLast (by simp)]; rfl
          simp [f16, dNm, op2, es, hc, e14, placeOf, hfs, gb, fb, in_code, idx_code, hb, dPl, sW, dP, bindT, setAll, f1, e0, hgs, a0, a1, List.getLast?_eq_some_getLast (l := g :: gs) (by simp)]
      | false =>
        rw [show sW false "left" "right" = .str "right" from rfl] at es
        have f1 : ∀ x3 x4 x6 x7, lcS (callF tbl (k+1)) (.var 7) (.v 7) (.so (.ite (.b2 .eq (.idx (.var 1) (.lit (.int 2))) (.glo "LEFT" (.str "left"))) (.b2 .lt (.var 7) (.var 5)) (.b2 .gt (.var 7) (.var 5)))) (fs.map .int) [some (.c i), some (.v (.tup [.str "beside", .int j, .str "right"])), some (.v (.lst (fs.map .int))), x3, x4, some (.v (.int b.2)), x6, x7] M = .ok (.n ((fs.filter fun f => decide (b.2 < f)).map .int)) M := by
          intro x3 x4 x6 x7
          refine lcS_flt D.int (fun f => decide (b.2 < f)) D.int fs ?_ (by simp; omega)
          intro x _
          by_cases hx : b.2 < x <;> simp [lcB, bindT, wipeE, Tg.own, op2, hx]
        generalize hgs : (fs.filter fun f => decide (b.2 < f)) = gs at f1
        have e0 := eqD_ints gs []
        rw [List.map_nil] at e0
        cases gs with
        | nil =>
          rw [List.map_nil, show (([] : List Int) == []) = true from rfl] at e0
          simp [f16, dNm, op2, es, hc, e14, placeOf, hfs, gb, fb, in_code, idx_code, hb, dPl, sW, dP, bindT, setAll, f1, e0, hgs]
        | cons g gs =>
          have hn : ((g :: gs : List Int) == []) = false := rfl
          rw [hn, List.map_cons] at e0
          have a0 : idxD (.lst (.int g :: gs.map .int)) (.int 0) = some (.int g) := ixD_l _ 0
          have a1 : idxD (.lst (.int g :: gs.map .int)) (.int (-1)) = some (.int ((g :: gs).getLast (by simp))) := by
            show L2.atI _ _ = _
            rw [atM, ← List.map_cons (f := D.int), List.getLast?_map, List.getLast?_eq_some_getLast (by simp)]; rfl
          simp [f16, dNm, op2, es, hc, e14, placeOf, hfs, gb, fb, in_code, idx_code, hb, dPl, sW, dP, bindT, setAll, f1, e0, hgs, a0, a1]
end
end P
end Bf

set_option Elab.async false
set_option linter.all false
namespace Bf
namespace P
open PySem
/-! ### the drawing program: a step, a run -/
theorem set_get {M : Mem} {i : Nat} {x y : D} (h : M[i]? = some x) : (M.set i y)[i]? = some y := by
  have : i < M.length := (List.getElem?_eq_some_iff.mp h).1
  simp [this]
@[simp] theorem tks (M : Mem) (s : Nat) (y : D) : (M.set s y).take M.length = M.set s y := List.take_of_length_le (by simp)
/-- what a step leaves -/
def doP (r : RunS) (i : Nat) (add : Bool) (p w : Int) : RunS :=
  { r with shown := if add then ins r.shown (if p + w < p then p + w else p) (if p < p + w then p + w else p) else cutP r.shown (if p + w < p then p + w else p) (if p < p + w then p + w else p), bars := r.bars ++ [(i, (p, p + w))] }
section
variable {tbl : Nat → Option FD} {M : Mem}
theorem c17 (T : TD tbl) (k s : Nat) (r : RunS) (i : Nat) (add : Bool) (p w : Int) (h : M[s]? = some (dRun r)) (hn : Norm r.shown) (hl : r.shown.length < 1000) (hl2 : r.bars.length < 1000) (hw : w ≠ 0) (hf : ∀ b ∈ r.bars, b.1 ≠ i) :
    callF tbl (k+2) 17 [.c s, .v (.int i), .v (sW add "add" "cut"), .v (.int p), .v (.int w)] M = .ok (.v .non) (M.set s (dRun (doP r i add p w))) := by
  have hlo : (if p + w < p then p + w else p) < (if p < p + w then p + w else p) := by split <;> split <;> omega
  have e11 := c11 (M := M) T k r.shown _ _ hn hlo hl
  have e12 := c12 (M := M) T k r.shown (if p + w < p then p + w else p) (if p < p + w then p + w else p) hl
  have fs := fld_shown h
  have hs : s < M.length := (List.getElem?_eq_some_iff.mp h).1
  have hp := putD_new dP r.bars i (p, p + w) hf hl2
  rw [cfl T.h17]
  rw [doP]
  generalize hlo1 : (if p + w < p then p + w else p) = lo at *
  generalize hhi1 : (if p < p + w then p + w else p) = hi at *
  cases add with
  | true =>
    have h2 := set_get (y := dRun { r with shown := ins r.shown lo hi }) h
    have gb := get_bars h2
    have fb := fld_bars h2
    have f1 : fputM (.c s) .shown (.lst ((ins r.shown lo hi).map dP)) M = some (M.set s (dRun { r with shown := ins r.shown lo hi })) := by
      simp [fputM, h, dRun, okF, put]
    have f2 : W.set (M.set s (dRun { r with shown := ins r.shown lo hi })) (dKB dP (r.bars ++ [(i, (p, p + w))])) (.f s .bars) = some (M.set s (dRun { r with shown := ins r.shown lo hi, bars := r.bars ++ [(i, p, p + w)] })) := by
      simp [W.set, hs, dRun, put]
    simp only [dP] at hp
    simp [f17, sW, op2, fs, e11, h, hlo1, hhi1, owned, f1, gb, fb, hp, f2]
  | false =>
    have h2 := set_get (y := dRun { r with shown := cutP r.shown lo hi }) h
    have gb := get_bars h2
    have fb := fld_bars h2
    have f1 : fputM (.c s) .shown (.lst ((cutP r.shown lo hi).map dP)) M = some (M.set s (dRun { r with shown := cutP r.shown lo hi })) := by
      simp [fputM, h, dRun, okF, put]
    have f2 : W.set (M.set s (dRun { r with shown := cutP r.shown lo hi })) (dKB dP (r.bars ++ [(i, (p, p + w))])) (.f s .bars) = some (M.set s (dRun { r with shown := cutP r.shown lo hi, bars := r.bars ++ [(i, p, p + w)] })) := by
      simp [W.set, hs, dRun, put]
    simp only [dP] at hp
    simp [f17, sW, op2, fs, e12, h, hlo1, hhi1, owned, f1, gb, fb, hp, f2]
end
def fmOf (bars : Bars) (pl : Option Int) (nm : Nm) : Option Marks := match pl with
  | none => none
  | some p => some (if isStart nm then [] else marksAt bars p)
def step1 (r : RunS) (i : Nat) (s : Stp) : RunS := { r with ho := r.ho ++ [(i, (faces r.shown).map (marksAt r.bars))], fm := r.fm ++ [(i, fmOf r.bars (placeOf r.shown r.bars s.nm) s.nm)] }
def runStep (sz : Int × Int) (r : RunS) (i : Nat) (s : Stp) : RunS := match placeOf r.shown r.bars s.nm with
  | none => step1 r i s
  | some p => doP (step1 r i s) i s.add p (long s.len sz * (if s.right then 1 else -1))
structure RI (r : RunS) : Prop where
  norm : Norm r.shown
  len : r.shown.length < 2 ^ r.ho.length
  bl : r.bars.length ≤ r.ho.length
  ks : r.fm.map (·.1) = r.ho.map (·.1)
  nd : (r.bars.map (·.1)).Nodup
  sub : ∀ b ∈ r.bars, b.1 ∈ r.ho.map (·.1)
theorem long_pos {l s : Int × Int} (hl : lenOk l) (h1 : 0 < s.1) (h2 : 0 < s.2) : 0 < long l s := by
  obtain ⟨a1, a2, a3, a4, a5⟩ := hl
  unfold long
  have : l.1 = 0 ∨ l.1 = 1 ∨ l.1 = 2 := by omega
  have : l.2 = 0 ∨ l.2 = 1 ∨ l.2 = 2 := by omega
  rcases ‹l.1 = 0 ∨ _› with h | h | h <;> rcases ‹l.2 = 0 ∨ _› with h' | h' | h' <;> rw [h, h'] <;> omega
theorem runStep_RI {r : RunS} (h : RI r) {i : Nat} {s : Stp} {sz : Int × Int} (hs : lenOk s.len) (h1 : 0 < sz.1) (h2 : 0 < sz.2) (hi : i ∉ r.ho.map (·.1)) : RI (runStep sz r i s) ∧ (runStep sz r i s).ho.map (·.1) = r.ho.map (·.1) ++ [i] := by
  have hp : (2 : Nat) ^ (r.ho.length + 1) = 2 * 2 ^ r.ho.length := by rw [Nat.pow_succ]; omega
  have hl := h.len
  have hpos := long_pos hs h1 h2
  unfold runStep
  cases hpl : placeOf r.shown r.bars s.nm with
  | none =>
    refine ⟨⟨h.norm, ?_, ?_, ?_, h.nd, ?_⟩, ?_⟩
    · simp only [step1, List.length_append, List.length_cons, List.length_nil]; rw [hp]; omega
    · have := h.bl; simp only [step1, List.length_append, List.length_cons, List.length_nil]; omega
    · simp only [step1, List.map_append, h.ks]; rfl
    · intro b hb; have := h.sub b hb; simp only [step1, List.map_append, List.mem_append]; exact .inl this
    · simp [step1]
  | some p =>
    have hw : long s.len sz * (if s.right then 1 else -1) ≠ 0 := by split <;> omega
    simp only []
    generalize long s.len sz * (if s.right then 1 else -1) = w at hw
    have hlo : (if p + w < p then p + w else p) < (if p < p + w then p + w else p) := by split <;> split <;> omega
    refine ⟨⟨?_, ?_, ?_, ?_, ?_, ?_⟩, ?_⟩
    · cases s.add with
      | true => exact ins_norm _ _ _ h.norm hlo
      | false => exact cutP_norm _ _ _ h.norm hlo
    · simp only [doP, step1, List.length_append, List.length_cons, List.length_nil]
      rw [hp]
      cases s.add with
      | true =>
        have := ins_len r.shown (if p + w < p then p + w else p) (if p < p + w then p + w else p)
        simp only [if_true]; omega
      | false =>
        have := cutP_len r.shown (if p + w < p then p + w else p) (if p < p + w then p + w else p)
        simp only [Bool.false_eq_true, if_false]; omega
    · have := h.bl; simp only [doP, step1, List.length_append, List.length_cons, List.length_nil]; omega
    · simp only [doP, step1, List.map_append, h.ks]; rfl
    · simp only [doP, step1, List.map_append]
      refine List.nodup_append.mpr ⟨h.nd, by simp, ?_⟩
      intro a ha b hb e
      obtain ⟨c, hc, rfl⟩ := List.mem_map.mp ha
      simp at hb
      exact hi (by rw [← hb, ← e]; exact h.sub c hc)
    · intro b hb
      simp only [doP, step1, List.mem_append] at hb
      simp only [doP, step1, List.map_append, List.mem_append]
      rcases hb with hb | hb
      · exact .inl (h.sub b hb)
      · right; simp at hb; simp [hb]
    · simp [doP, step1]
theorem eqD_non (x : Option Int) : isNonD (dPl x) = x.isNone := by cases x <;> rfl
section
variable {tbl : Nat → Option FD} {M : Mem}
theorem b13 (T : TD tbl) (k n0 z : Nat) (r : RunS) (h : M[z]? = some (dRun r)) (hr : RI r) (hb : r.ho.length ≤ 8) (ss : List Stp) (sz : Int × Int) (O : D) (i : Nat) (s : Stp) (hi : ss[i]? = some s) (hl : lenOk s.len) (h1 : 0 < sz.1) (h2 : 0 < sz.2) (hf : i ∉ r.ho.map (·.1)) (x5 x6 x7 x8 x9 x10 : Option W) : ∃ y5 y6 y7 y8 y9 y10 : Option W,
    evSs (callF tbl (k+3)) n0 f13_b0 [some (.c z), some (.v (dStps ss)), some (.v (dP sz)), some (.v O), some (.v (.int i)), x5, x6, x7, x8, x9, x10] M = .nx [some (.c z), some (.v (dStps ss)), some (.v (dP sz)), some (.v O), some (.v (.int i)), y5, y6, y7, y8, y9, y10] (M.set z (dRun (runStep sz r i s))) := by
  have hl9 : r.shown.length < 1000 := Nat.lt_of_lt_of_le hr.len (Nat.le_trans (Nat.pow_le_pow_right (by omega) hb) (by decide))
  have hbl : r.bars.length < 1000 := by have := hr.bl; omega
  have hz : z < M.length := (List.getElem?_eq_some_iff.mp h).1
  have hfh : ∀ b ∈ r.ho, b.1 ≠ i := fun b hb e => hf (List.mem_map.mpr ⟨b, hb, e⟩)
  have hff : ∀ b ∈ r.fm, b.1 ≠ i := fun b hb e => hf (by rw [← hr.ks]; exact List.mem_map.mpr ⟨b, hb, e⟩)
  have hfb : ∀ b ∈ r.bars, b.1 ≠ i := fun b hb e => hf (by rw [← e]; exact hr.sub b hb)
  have hfl : r.fm.length < 1000 := by have := congrArg List.length hr.ks; simp at this; omega
  have hol : r.ho.length < 1000 := by omega
  have hfs : (faces r.shown).length ≤ 2000 := by
    have : ∀ ps : Pc, (faces ps).length = 2 * ps.length := by
      intro ps; unfold faces
      induction ps with
      | nil => rfl
      | cons p ps ih => rw [List.flatMap_cons, List.length_append, ih, List.length_cons]; simp; omega
    rw [this]; omega
  have es := eqD_start s.nm
  have hc : ∀ (N : Mem) (q : RunS), N[z]? = some (dRun q) → N[z]? = some (.ins 11 [.shown, .bars, .fmarks, .holders] [.lst (q.shown.map dP), dKB dP q.bars, dKB dFM q.fm, dKB dHo q.ho]) := fun _ _ h => h
  have ix : idxD (dStps ss) (.int (i : Int)) = some (.tup [sW s.add "add" "cut", dNm s.nm, sW s.right "right" "left", dP s.len]) := by
    rw [dStps, ixD_t, List.getElem?_map, hi]; rfl
  have e16 := c16 T (k+1) z r h hl9 s.nm
  have e14 : callF tbl (k+3) 14 [.c z] M = .ok (.n ((faces r.shown).map .int)) M := c14 T (k+2) z .non r.shown (fld_shown h) hl9
  have f1 : ∀ x5 x6 x7 x8 x9 x10, lcS (callF tbl (k+3)) (.mth 11 15 (.var 0) (.cons (.var 10) .nil)) (.v 10) .no ((faces r.shown).map .int) [some (.c z), some (.v (dStps ss)), some (.v (dP sz)), some (.v O), some (.v (.int i)), x5, x6, x7, x8, x9, x10] M = .ok (.n (((faces r.shown).map (marksAt r.bars)).map dMarks)) M := by
    intro x5 x6 x7 x8 x9 x10
    rw [List.map_map]
    refine lcS_map D.int _ _ ?_ (by simp; omega)
    intro p _
    simp [lcB, bindT, wipeE, Tg.own, hc M r h, c15 T (k+2) z r p h hr.nd hbl]
  -- the dict of holders, then found marks
  have m1 := set_get (y := dRun { r with ho := r.ho ++ [(i, (faces r.shown).map (marksAt r.bars))] }) h
  have p1 := putD_new dHo r.ho i ((faces r.shown).map (marksAt r.bars)) hfh hol
  have g1 : W.get M (.f z .holders) = some (dKB dHo r.ho) := by simp [getf, h, dRun, look]
  have s1 : W.set M (dKB dHo (r.ho ++ [(i, (faces r.shown).map (marksAt r.bars))])) (.f z .holders) = some (M.set z (dRun { r with ho := r.ho ++ [(i, (faces r.shown).map (marksAt r.bars))] })) := by
    simp [W.set, h, dRun, put]
  generalize hH : ((faces r.shown).map (marksAt r.bars)) = H at *
  have m2 := set_get (y := dRun { r with ho := r.ho ++ [(i, H)], fm := r.fm ++ [(i, none)] }) h
  have p2 := putD_new dFM r.fm i none hff hfl
  have g2 : W.get (M.set z (dRun { r with ho := r.ho ++ [(i, H)] })) (.f z .fmarks) = some (dKB dFM r.fm) := by simp [getf, hz, dRun, look]
  have s2 : W.set (M.set z (dRun { r with ho := r.ho ++ [(i, H)] })) (dKB dFM (r.fm ++ [(i, none)])) (.f z .fmarks) = some (M.set z (dRun { r with ho := r.ho ++ [(i, H)], fm := r.fm ++ [(i, none)] })) := by
    simp [W.set, hz, dRun, put]
  simp only [dHo] at p1
  simp only [dFM] at p2
  cases hpl : placeOf r.shown r.bars s.nm with
  | none =>
    rw [hpl] at e16
    refine ⟨some (.v .non), some (.v (sW s.add "add" "cut")), some (.v (dNm s.nm)), some (.v (sW s.right "right" "left")), some (.v (dP s.len)), x10, ?_⟩
    have er : runStep sz r i s = { r with ho := r.ho ++ [(i, H)], fm := r.fm ++ [(i, none)] } := by
      simp [runStep, hpl, step1, hH, fmOf]
    rw [er]
    simp [f13_b0, ix, bindT, setAll, hc M r h, e16, dPl, e14, f1, fld_ho h, g1, p1, s1, fld_fm m1, g2, p2, s2, op2, isNonD, E.ro, Es.ro, OE.ro]
  | some p =>
    rw [hpl] at e16
    have hw : long s.len sz * (if s.right then 1 else -1) ≠ 0 := by have := long_pos hl h1 h2; split <;> omega
    have e7 : callF tbl (k+3) 7 [.v (dP s.len), .v (dP sz)] (M.set z (dRun { r with ho := r.ho ++ [(i, H)], fm := r.fm ++ [(i, some (if isStart s.nm then [] else marksAt r.bars p))] })) = _ := c7 T (k+2) (s := sz) hl
    have e15 := c15 T (k+2) z { r with ho := r.ho ++ [(i, H)], fm := r.fm ++ [(i, none)] } p m2 hr.nd hbl
    have m3 := set_get (y := dRun { r with ho := r.ho ++ [(i, H)], fm := r.fm ++ [(i, some (if isStart s.nm then [] else marksAt r.bars p))] }) h
    have p3 := putD_last dFM r.fm i none (some (if isStart s.nm then [] else marksAt r.bars p)) hff hfl
    have g3 : W.get (M.set z (dRun { r with ho := r.ho ++ [(i, H)], fm := r.fm ++ [(i, none)] })) (.f z .fmarks) = some (dKB dFM (r.fm ++ [(i, none)])) := by simp [getf, hz, dRun, look]
    have s3 : W.set (M.set z (dRun { r with ho := r.ho ++ [(i, H)], fm := r.fm ++ [(i, none)] })) (dKB dFM (r.fm ++ [(i, some (if isStart s.nm then [] else marksAt r.bars p))])) (.f z .fmarks) = some (M.set z (dRun { r with ho := r.ho ++ [(i, H)], fm := r.fm ++ [(i, some (if isStart s.nm then [] else marksAt r.bars p))] })) := by
      simp [W.set, hz, dRun, put]
    have e17 := c17 T (k+1) z _ i s.add p (long s.len sz * (if s.right then 1 else -1)) m3 hr.norm hl9 hbl hw hfb
    rw [List.set_set] at e17
    have er : runStep sz r i s = doP { r with ho := r.ho ++ [(i, H)], fm := r.fm ++ [(i, some (if isStart s.nm then [] else marksAt r.bars p))] } i s.add p (long s.len sz * (if s.right then 1 else -1)) := by
      simp [runStep, hpl, step1, hH, fmOf]
    rw [er]
    generalize dRun (doP { r with ho := r.ho ++ [(i, H)], fm := r.fm ++ [(i, some (if isStart s.nm then [] else marksAt r.bars p))] } i s.add p (long s.len sz * (if s.right then 1 else -1))) = Z at e17 ⊢
    have hm3 := hc _ _ m3
    generalize sW s.add "add" "cut" = A at e17 ix
    refine ⟨some (.v (.int p)), some (.v A), some (.v (dNm s.nm)), some (.v (sW s.right "right" "left")), some (.v (dP s.len)), x10, ?_⟩
    cases hst : isStart s.nm with
    | true =>
      simp only [hst, if_true, dFM, dMarks, List.map_nil] at es e7 m3 p3 s3 e17 hm3
      cases hri : s.right with
      | true =>
        simp only [hri, if_true, Int.mul_one] at e17
        simp [f13_b0, ix, bindT, setAll, hc M r h, hc _ _ m2, hm3, e16, dPl, e14, f1, fld_ho h, g1, p1, s1, fld_fm m1, fld_fm m2, g2, p2, s2, op2, isNonD, E.ro, Es.ro, OE.ro, es, g3, p3, s3, e7, e17, hri, sW]
      | false =>
        simp only [hri, Bool.false_eq_true, if_false, Int.mul_neg, Int.mul_one] at e17
        simp [f13_b0, ix, bindT, setAll, hc M r h, hc _ _ m2, hm3, e16, dPl, e14, f1, fld_ho h, g1, p1, s1, fld_fm m1, fld_fm m2, g2, p2, s2, op2, isNonD, E.ro, Es.ro, OE.ro, es, g3, p3, s3, e7, e17, hri, sW]
    | false =>
      simp only [hst, Bool.false_eq_true, if_false, dFM] at es e7 m3 p3 s3 e17 hm3
      cases hri : s.right with
      | true =>
        simp only [hri, if_true, Int.mul_one] at e17
        simp [f13_b0, ix, bindT, setAll, hc M r h, hc _ _ m2, hm3, e16, dPl, e14, f1, fld_ho h, g1, p1, s1, fld_fm m1, fld_fm m2, g2, p2, s2, op2, isNonD, E.ro, Es.ro, OE.ro, es, g3, p3, s3, e7, e17, e15, hri, sW]
      | false =>
        simp only [hri, Bool.false_eq_true, if_false, Int.mul_neg, Int.mul_one] at e17
        simp [f13_b0, ix, bindT, setAll, hc M r h, hc _ _ m2, hm3, e16, dPl, e14, f1, fld_ho h, g1, p1, s1, fld_fm m1, fld_fm m2, g2, p2, s2, op2, isNonD, E.ro, Es.ro, OE.ro, es, g3, p3, s3, e7, e17, e15, hri, sW]
end
end P
end Bf

set_option Elab.async false
set_option linter.all false
namespace Bf
namespace P
open PySem
/-! ### the drawing program: a whole run -/
def run0 : RunS := ⟨[], [], [], []⟩
def runG (sz : Int × Int) (ss : List Stp) : RunS → List Nat → RunS
  | r, [] => r
  | r, i :: is => match ss[i]? with
    | some s => runG sz ss (runStep sz r i s) is
    | none => runG sz ss r is
def runOf (ss : List Stp) (sz : Int × Int) : RunS := runG sz ss run0 (List.range ss.length)
def dOrd (is : List Nat) : D := .lst (is.map fun (i : Nat) => .int (i : Int))
theorem run0_RI : RI run0 := ⟨⟨List.Pairwise.nil, fun _ h => nomatch h⟩, by simp [run0], by simp [run0], rfl, by simp [run0], fun _ h => nomatch h⟩
/-- an order of steps -/
structure OrdOk (ss : List Stp) (is : List Nat) : Prop where
  lt : ∀ i ∈ is, i < ss.length
  nd : is.Nodup
theorem ord_range (ss : List Stp) : OrdOk ss (List.range ss.length) := ⟨fun i h => List.mem_range.mp h, List.nodup_range⟩
theorem OrdOk.len {ss : List Stp} {is : List Nat} (h : OrdOk ss is) : is.length ≤ ss.length := by
  have := (List.nodup_range (n := ss.length))
  have h2 : is.length ≤ (List.range ss.length).length := List.Nodup.length_le_of_subset h.nd (fun i hi => List.mem_range.mpr (h.lt i hi))
  simpa using h2
theorem runG_RI {ss : List Stp} {sz : Int × Int} (hl : ∀ s ∈ ss, lenOk s.len) (h1 : 0 < sz.1) (h2 : 0 < sz.2) : ∀ (is : List Nat) (r : RunS), RI r → (∀ i ∈ is, i < ss.length) → is.Nodup → (∀ i ∈ is, i ∉ r.ho.map (·.1)) → RI (runG sz ss r is) ∧ (runG sz ss r is).ho.map (·.1) = r.ho.map (·.1) ++ is
  | [], r, hr, _, _, _ => ⟨hr, by simp [runG]⟩
  | i :: is, r, hr, a, b, c => by
    have hi : i < ss.length := a i (by simp)
    have hs : ss[i]? = some ss[i] := by simp [hi]
    rw [runG, hs]
    obtain ⟨q1, q2⟩ := runStep_RI hr (s := ss[i]) (hl _ (List.getElem_mem hi)) h1 h2 (c i (by simp))
    have := runG_RI hl h1 h2 is (runStep sz r i ss[i]) q1 (fun j hj => a j (by simp [hj])) (List.nodup_cons.mp b).2 (by
      intro j hj; rw [q2, List.mem_append]; rintro (h | h)
      · exact c j (by simp [hj]) h
      · simp at h; subst h; exact (List.nodup_cons.mp b).1 hj)
    refine ⟨this.1, ?_⟩
    rw [this.2, q2]; simp
section
variable {tbl : Nat → Option FD} {M : Mem}
theorem l13 (T : TD tbl) (k n0 z : Nat) (ss : List Stp) (hl : ∀ s ∈ ss, lenOk s.len) (sz : Int × Int) (O : D) (h1 : 0 < sz.1) (h2 : 0 < sz.2) : ∀ (is : List Nat) (r : RunS) (M : Mem), M[z]? = some (dRun r) → RI r → (∀ i ∈ is, i < ss.length) → is.Nodup → (∀ i ∈ is, i ∉ r.ho.map (·.1)) → r.ho.length + is.length ≤ 9 → ∀ x4 x5 x6 x7 x8 x9 x10 : Option W, ∃ y4 y5 y6 y7 y8 y9 y10 : Option W,
    loopS (callF tbl (k+3)) n0 (.v 4) f13_b0 (is.map fun (i : Nat) => .int (i : Int)) [some (.c z), some (.v (dStps ss)), some (.v (dP sz)), some (.v O), x4, x5, x6, x7, x8, x9, x10] M = .nx [some (.c z), some (.v (dStps ss)), some (.v (dP sz)), some (.v O), y4, y5, y6, y7, y8, y9, y10] (M.set z (dRun (runG sz ss r is)))
  | [], r, M, hM, _, _, _, _, _, x4, x5, x6, x7, x8, x9, x10 => by
    refine ⟨x4, x5, x6, x7, x8, x9, x10, ?_⟩
    have : M.set z (dRun r) = M := by
      obtain ⟨hz, e⟩ := List.getElem?_eq_some_iff.mp hM
      rw [← e]; exact List.set_getElem_self hz
    rw [List.map_nil, loopS_nil, runG, this]
  | i :: is, r, M, hM, hr, a, b, c, hlen, x4, x5, x6, x7, x8, x9, x10 => by
    have hi : i < ss.length := a i (by simp)
    have hs : ss[i]? = some ss[i] := by simp [hi]
    rw [List.length_cons] at hlen
    obtain ⟨y5, y6, y7, y8, y9, y10, hb⟩ := b13 (M := M) T k n0 z r hM hr (by omega) ss sz O i ss[i] hs (hl _ (List.getElem_mem hi)) h1 h2 (c i (by simp)) x5 x6 x7 x8 x9 x10
    obtain ⟨q1, q2⟩ := runStep_RI hr (s := ss[i]) (hl _ (List.getElem_mem hi)) h1 h2 (c i (by simp))
    have hq := congrArg List.length q2
    simp at hq
    obtain ⟨w4, w5, w6, w7, w8, w9, w10, ih⟩ := l13 T k n0 z ss hl sz O h1 h2 is (runStep sz r i ss[i]) (M.set z (dRun (runStep sz r i ss[i]))) (set_get hM) q1 (fun j hj => a j (by simp [hj])) (List.nodup_cons.mp b).2 (by
      intro j hj; rw [q2, List.mem_append]; rintro (h | h)
      · exact c j (by simp [hj]) h
      · simp at h; subst h; exact (List.nodup_cons.mp b).1 hj) (by omega) (some (.v (.int i))) y5 y6 y7 y8 y9 y10
    refine ⟨w4, w5, w6, w7, w8, w9, w10, ?_⟩
    rw [List.map_cons, loopS_nx (v2 := _) (by rfl) hb, ih, List.set_set, runG, hs]
theorem c13 (T : TD tbl) (k : Nat) (ss : List Stp) (hl : ∀ s ∈ ss, lenOk s.len) (h5 : ss.length ≤ 9) (sz : Int × Int) (h1 : 0 < sz.1) (h2 : 0 < sz.2) (is : List Nat) (ho : OrdOk ss is) :
    callF tbl (k+4) 13 [.c M.length, .v (dStps ss), .v (dP sz), .v (dOrd is)] (M ++ [.ins 11 [] []]) = .ok (.v .non) (M ++ [dRun (runG sz ss run0 is)]) := by
  obtain ⟨y4, y5, y6, y7, y8, y9, y10, ih⟩ := l13 T k M.length M.length ss hl sz (dOrd is) h1 h2 is run0 (M ++ [dRun run0]) (by simp) run0_RI ho.lt ho.nd (fun _ _ h => nomatch h) (by have := ho.len; simp [run0]; omega) none none none none none none none
  rw [cat2] at ih
  have hi : items (dOrd is) = some (is.map fun (i : Nat) => .int (i : Int)) := rfl
  have e1 : fputM (.c M.length) .shown (.lst []) (M ++ [.ins 11 [] []]) = some (M ++ [.ins 11 [.shown] [.lst []]]) := by simp [fputM, okF, put]
  have e2 : fnewM (.c M.length) .bars (.dK [] []) (M ++ [.ins 11 [.shown] [.lst []]]) = some (M ++ [.ins 11 [.shown, .bars] [.lst [], .dK [] []]]) := by simp [fnewM, okF]
  have e3 : fnewM (.c M.length) .fmarks (.dK [] []) (M ++ [.ins 11 [.shown, .bars] [.lst [], .dK [] []]]) = some (M ++ [.ins 11 [.shown, .bars, .fmarks] [.lst [], .dK [] [], .dK [] []]]) := by simp [fnewM, okF]
  have e4 : fnewM (.c M.length) .holders (.dK [] []) (M ++ [.ins 11 [.shown, .bars, .fmarks] [.lst [], .dK [] [], .dK [] []]]) = some (M ++ [.ins 11 [.shown, .bars, .fmarks, .holders] [.lst [], .dK [] [], .dK [] [], .dK [] []]]) := by simp [fnewM, okF]
  have hd : dRun run0 = .ins 11 [.shown, .bars, .fmarks, .holders] [.lst [], .dK [] [], .dK [] [], .dK [] []] := rfl
  rw [hd] at ih
  have t1 : ∀ x : D, (M ++ [x]).take (M.length + 1) = M ++ [x] := fun x => List.take_of_length_le (by simp)
  rw [cfl T.h13]
  simp [f13, e1, e2, e3, e4, mine, owned, hi, ih, t1]
theorem made (r : RunS) : madeV M.length (.ok (.v .non) (M ++ [dRun r])) = .ok (.v (dRun r)) M := by simp [madeV, dRun]
theorem fld_osteps (ss : List Stp) (fs : List Fct) : fldW (.v (dPlan ss fs)) .osteps M = some (.v (dStps ss)) := by simp [fldW, dPlan, okF, look]
theorem fld_ofacts (ss : List Stp) (fs : List Fct) : fldW (.v (dPlan ss fs)) .ofacts M = some (.v (dFcts fs)) := by simp [fldW, dPlan, okF, look]
theorem len_stps (ss : List Stp) : lenD (dStps ss) = some ss.length := by simp [dStps]
theorem rng_nat (n : Nat) (h : n ≤ 1000) : bi .rng [.int (n : Int)] = some (.lst ((List.range n).map fun (i : Nat) => .int (i : Int))) := by
  rw [bi_rng, if_pos (by omega)]; rfl
theorem c18 (T : TD tbl) (k : Nat) (ss : List Stp) (hl : ∀ s ∈ ss, lenOk s.len) (h5 : ss.length ≤ 9) (sz : Int × Int) (h1 : 0 < sz.1) (h2 : 0 < sz.2) (fs : List Fct) :
    callF tbl (k+5) 18 [.v (dPlan ss fs), .v (dP sz)] M = .ok (.v (dRun (runOf ss sz))) M := by
  have e := c13 (M := M) T k ss hl h5 sz h1 h2 (List.range ss.length) (ord_range ss)
  rw [cfl T.h18]
  have er := rng_nat ss.length (by omega)
  have eo : D.lst ((List.range ss.length).map fun (i : Nat) => .int (i : Int)) = dOrd (List.range ss.length) := rfl
  simp [f18, fld_osteps, len_stps, er, eo, e, made, runOf, -bi_rng]
end
end P
end Bf

set_option Elab.async false
set_option linter.all false
namespace Bf
namespace P
open PySem
/-! ### the law's bars: the last one tells -/
abbrev LBars := List (Nat × (Bool × (Int × Int)))
def dLB (b : Bool × (Int × Int)) : D := .tup [sW b.1 "add" "cut", .int b.2.1, .int b.2.2]
def bars (lb : LBars) : Bars := lb.map fun b => (b.1, b.2.2)
def inBar (b : Int × Int) (t : Int) : Bool := decide ((if b.2 < b.1 then b.2 else b.1) * 2 < t ∧ t < (if b.2 > b.1 then b.2 else b.1) * 2)
def covR : LBars → Int → Bool
  | [], _ => false
  | b :: bs, t => if inBar b.2.2 t then b.2.1 else covR bs t
def covL (lb : LBars) (t : Int) : Bool := covR lb.reverse t
theorem covL_app (lb : LBars) (b : Nat × (Bool × (Int × Int))) (t : Int) : covL (lb ++ [b]) t = if inBar b.2.2 t then b.2.1 else covL lb t := by
  simp [covL, covR]
def lends (lb : LBars) : List Int := (lb.map fun b => b.2.2.1) ++ lb.map fun b => b.2.2.2
def lfaces (lb : LBars) : List Int := (setSort (lends lb)).filter fun p => covL lb (2 * p - 1) != covL lb (2 * p + 1)
/-- the pieces and the bars tell of the same places -/
structure Rel (r : RunS) (lb : LBars) : Prop where
  norm : Norm r.shown
  bars : r.bars = bars lb
  cov : ∀ t, t % 2 = 1 → cov r.shown t = covL lb t
  ends : ∀ p ∈ faces r.shown, p ∈ lends lb
theorem faces_cons (p : Int × Int) (ps : Pc) : faces (p :: ps) = p.1 :: p.2 :: faces ps := rfl
theorem mem_faces {q : Int} {ps : Pc} : q ∈ faces ps ↔ ∃ p ∈ ps, q = p.1 ∨ q = p.2 := by
  unfold faces; rw [List.mem_flatMap]; simp
theorem faces_lt : ∀ {ps : Pc}, Norm ps → (faces ps).Pairwise (· < ·)
  | [], _ => List.Pairwise.nil
  | p :: ps, h => by
    have h1 := h.2 p (by simp)
    have hq : ∀ q ∈ faces ps, p.2 < q := by
      intro q hq
      obtain ⟨x, hx, e⟩ := mem_faces.mp hq
      have := h.lt x hx
      have := h.tail.2 x hx
      omega
    rw [faces_cons]
    refine List.pairwise_cons.mpr ⟨?_, List.pairwise_cons.mpr ⟨hq, faces_lt h.tail⟩⟩
    intro q hq'
    rcases List.mem_cons.mp hq' with rfl | h'
    · exact h1
    · have := hq q h'; omega
theorem cov_none {ps : Pc} {b t : Int} (h : ∀ p ∈ ps, b < p.1) (ht : t < 2 * b + 2) : cov ps t = false := by
  unfold cov; rw [List.any_eq_false]; intro p hp
  have := h p hp
  simp; omega
theorem faces_cov : ∀ {ps : Pc}, Norm ps → ∀ q : Int, q ∈ faces ps ↔ (cov ps (2 * q - 1) != cov ps (2 * q + 1)) = true
  | [], _, q => by simp [faces, cov]
  | p :: ps, h, q => by
    have h1 := h.2 p (by simp)
    rw [faces_cons, List.mem_cons, List.mem_cons, faces_cov h.tail q, cov_cons, cov_cons]
    by_cases hq : p.2 < q
    · have a1 : ¬ (2 * p.1 < 2 * q - 1 ∧ 2 * q - 1 < 2 * p.2) := by omega
      have a2 : ¬ (2 * p.1 < 2 * q + 1 ∧ 2 * q + 1 < 2 * p.2) := by omega
      have a3 : ¬ q = p.1 := by omega
      have a4 : ¬ q = p.2 := by omega
      simp [a1, a2, a3, a4]
    · have c1 : cov ps (2 * q - 1) = false := cov_none h.lt (by omega)
      have c2 : cov ps (2 * q + 1) = false := cov_none h.lt (by omega)
      rw [c1, c2]
      simp only [Bool.or_false, bne_self_eq_false, Bool.false_eq_true, or_false]
      by_cases e1 : q = p.1
      · have a1 : ¬ (2 * p.1 < 2 * q - 1 ∧ 2 * q - 1 < 2 * p.2) := by omega
        have a2 : (2 * p.1 < 2 * q + 1 ∧ 2 * q + 1 < 2 * p.2) := by omega
        rw [decide_eq_false a1, decide_eq_true a2]; simp [e1]
      · by_cases e2 : q = p.2
        · have a1 : (2 * p.1 < 2 * q - 1 ∧ 2 * q - 1 < 2 * p.2) := by omega
          have a2 : ¬ (2 * p.1 < 2 * q + 1 ∧ 2 * q + 1 < 2 * p.2) := by omega
          rw [decide_eq_true a1, decide_eq_false a2]; simp [e2]
        · by_cases e3 : p.1 < q
          · have a1 : (2 * p.1 < 2 * q - 1 ∧ 2 * q - 1 < 2 * p.2) := by omega
            have a2 : (2 * p.1 < 2 * q + 1 ∧ 2 * q + 1 < 2 * p.2) := by omega
            simp [a1, a2, e1, e2]
          · have a1 : ¬ (2 * p.1 < 2 * q - 1 ∧ 2 * q - 1 < 2 * p.2) := by omega
            have a2 : ¬ (2 * p.1 < 2 * q + 1 ∧ 2 * q + 1 < 2 * p.2) := by omega
            simp [a1, a2, e1, e2]
theorem Rel.faces {r : RunS} {lb : LBars} (h : Rel r lb) : lfaces lb = faces r.shown := by
  refine rise_ext ?_ (faces_lt h.norm) ?_
  · exact (rise_setSort _).filter _
  · intro q
    rw [lfaces, List.mem_filter, mem_setSort, faces_cov h.norm q, h.cov _ (by omega), h.cov _ (by omega)]
    constructor
    · exact fun h => h.2
    · intro hq
      refine ⟨h.ends q ?_, hq⟩
      rw [faces_cov h.norm q, h.cov _ (by omega), h.cov _ (by omega)]; exact hq
theorem ins_ends : ∀ {ps : Pc} {lo hi q : Int}, q ∈ faces (ins ps lo hi) → q ∈ faces ps ∨ q = lo ∨ q = hi
  | [], lo, hi, q, h => by simp [ins, faces_cons, P.faces] at h; exact .inr h
  | (l, r) :: ps, lo, hi, q, h => by
    rw [ins] at h
    rw [faces_cons, List.mem_cons, List.mem_cons]
    split at h
    · rw [faces_cons, List.mem_cons, List.mem_cons] at h
      rcases h with h | h | h
      · exact .inl (.inl h)
      · exact .inl (.inr (.inl h))
      · rcases ins_ends h with h | h
        · exact .inl (.inr (.inr h))
        · exact .inr h
    · split at h
      · rw [faces_cons, faces_cons] at h; simp only [List.mem_cons] at h
        rcases h with h | h | h | h | h
        · exact .inr (.inl h)
        · exact .inr (.inr h)
        · exact .inl (.inl h)
        · exact .inl (.inr (.inl h))
        · exact .inl (.inr (.inr h))
      · have h0 := ins_ends h
        simp only []
        rcases h0 with h | h | h
        · exact .inl (.inr (.inr h))
        · split at h
          · exact .inl (.inl h)
          · exact .inr (.inl h)
        · split at h
          · exact .inl (.inr (.inl h))
          · exact .inr (.inr h)
theorem cut_ends {ps : Pc} {lo hi q : Int} (h : q ∈ faces (cutP ps lo hi)) : q ∈ faces ps ∨ q = lo ∨ q = hi := by
  obtain ⟨x, hx, e⟩ := mem_faces.mp h
  unfold cutP at hx
  rw [List.mem_filter, List.mem_flatMap] at hx
  obtain ⟨⟨p, hp, hq⟩, h2⟩ := hx
  have m1 : p.1 ∈ faces ps := mem_faces.mpr ⟨p, hp, .inl rfl⟩
  have m2 : p.2 ∈ faces ps := mem_faces.mpr ⟨p, hp, .inr rfl⟩
  simp only [List.mem_cons, List.not_mem_nil, or_false] at hq
  rcases hq with rfl | rfl
  · rcases e with e | e
    · left; rw [e]; exact m1
    · simp only [] at e; split at e
      · exact .inr (.inl e)
      · left; rw [e]; exact m2
  · rcases e with e | e
    · simp only [] at e; split at e
      · exact .inr (.inr e)
      · left; rw [e]; exact m1
    · left; rw [e]; exact m2
/-- a step done -/
theorem Rel.step {r r' : RunS} {lb : LBars} (h : Rel r lb) (hs : r'.shown = r.shown) (hb : r'.bars = r.bars) (i : Nat) (a : Bool) (p w : Int) (hw : w ≠ 0) : Rel (doP r' i a p w) (lb ++ [(i, (a, (p, p + w)))]) := by
  have hlo : (if p + w < p then p + w else p) < (if p < p + w then p + w else p) := by split <;> split <;> omega
  have hin : ∀ t, inBar (p, p + w) t = decide (2 * (if p + w < p then p + w else p) < t ∧ t < 2 * (if p < p + w then p + w else p)) := by
    intro t; unfold inBar; rw [decide_eq_decide]; simp only []
    split <;> split <;> omega
  have he : ∀ q, q = (if p + w < p then p + w else p) ∨ q = (if p < p + w then p + w else p) → q = p ∨ q = p + w := by
    intro q hq; split at hq <;> split at hq <;> omega
  have hl : ∀ q, q ∈ lends (lb ++ [(i, (a, (p, p + w)))]) ↔ q ∈ lends lb ∨ q = p ∨ q = p + w := by
    intro q; simp only [lends, List.map_append, List.mem_append, List.map_cons, List.map_nil, List.mem_cons, List.not_mem_nil, or_false]
    constructor
    · rintro ((h | h) | (h | h))
      · exact .inl (.inl h)
      · exact .inr (.inl h)
      · exact .inl (.inr h)
      · exact .inr (.inr h)
    · rintro ((h | h) | (h | h))
      · exact .inl (.inl h)
      · exact .inr (.inl h)
      · exact .inl (.inr h)
      · exact .inr (.inr h)
  refine ⟨?_, ?_, ?_, ?_⟩
  · simp only [doP, hs]
    cases a with
    | true => exact ins_norm _ _ _ h.norm hlo
    | false => exact cutP_norm _ _ _ h.norm hlo
  · simp [doP, hb, h.bars, P.bars]
  · intro t ht
    rw [covL_app]
    simp only [doP, hs, hin]
    cases a with
    | true =>
      simp only [if_true]
      rw [ins_cov _ _ _ _ h.norm hlo ht, h.cov t ht]
      generalize decide (2 * (if p + w < p then p + w else p) < t ∧ t < 2 * (if p < p + w then p + w else p)) = d
      cases d <;> simp
    | false =>
      simp only [Bool.false_eq_true, if_false]
      rw [cutP_cov _ _ _ _ hlo ht, h.cov t ht]
      generalize decide (2 * (if p + w < p then p + w else p) < t ∧ t < 2 * (if p < p + w then p + w else p)) = d
      cases d <;> simp
  · intro q hq
    rw [hl]
    simp only [doP, hs] at hq
    cases a with
    | true =>
      rcases ins_ends (by simpa using hq) with h' | h'
      · exact .inl (h.ends q h')
      · exact .inr (he q h')
    | false =>
      rcases cut_ends (by simpa using hq) with h' | h'
      · exact .inl (h.ends q h')
      · exact .inr (he q h')
end P
end Bf

set_option Elab.async false
set_option linter.all false
namespace Bf
namespace P
open PySem
/-! ### the law's defs: lengths, covers, faces, marks -/
structure TL (tbl : Nat → Option FD) : Prop where
  h78 : tbl 78 = some f78
  h79 : tbl 79 = some f79
  h81 : tbl 81 = some f81
  h82 : tbl 82 = some f82
  h83 : tbl 83 = some f83
  h84 : tbl 84 = some f84
  h85 : tbl 85 = some f85
/-! an argument by value or in a cell -/
section
variable {M : Mem} {w : W} {d : D}
theorem Rd.ev (h : Rd M w d) (cl : Nat → List W → Mem → Rs W) (e : Env) (N : Mem) : evE cl (.var 0) (some w :: e) N = .ok w N := by cases h <;> simp
theorem Rd.toV (h : Rd M w d) (N : Mem) : toV (.ok w N) = .ok w N := by cases h <;> simp
theorem Rd.rd (h : Rd M w d) (f : D → Mem → Rs W) : rd (.ok w M) f = f d M := by cases h with
  | v => rfl
  | c i _ h => show (match M[i]? with | some d => f d M | none => .no) = _; rw [h]
end
section
variable {tbl : Nat → Option FD} {M : Mem}
theorem c78 (T : TL tbl) (k : Nat) {l s : Int × Int} (hl : lenOk l) : callF tbl (k+1) 78 [.v (dP l), .v (dP s)] M = .ok (.v (.int (long l s))) M := by
  rw [cfl T.h78]
  simp [f78, dP, op2, idxD, L2.atI, L2.ixN, hl.nat1, hl.nat2, long]
theorem keysD_code {α : Type} (c : α → D) (bs : List (Nat × α)) : keysD (dKB c bs) = some (bs.map fun b => .int (b.1 : Int)) := by
  simp [dKB, keysD]
theorem blist_code {α : Type} (c : α → D) (bs : List (Nat × α)) : bi .list [dKB c bs] = some (.lst (bs.map fun b => .int (b.1 : Int))) := by
  simp [dKB]
theorem b81 (cl : Nat → List W → Mem → Rs W) (n0 : Nat) (lb : LBars) (w : W) (hw : Rd M w (dKB dLB lb)) (t : Int) (i : Nat) (b : Bool × (Int × Int)) (hb : lkB lb i = some b) (x3 x4 x5 : Option W) :
    evSs cl n0 f81_b0 [some w, some (.v (.int t)), some (.v (.int i)), x3, x4, x5] M = if inBar b.2 t = true then .rt (.v (.bl b.1)) M else .nx [some w, some (.v (.int t)), some (.v (.int i)), some (.v (sW b.1 "add" "cut")), some (.v (.int b.2.1)), some (.v (.int b.2.2))] M := by
  have hx : idxD (dKB dLB lb) (.int i) = some (dLB b) := by rw [idx_code, hb]; rfl
  rcases b with ⟨a, n, f⟩
  have hin : inBar (n, f) t = (decide ((if f < n then f else n) * 2 < t) && decide (t < (if f > n then f else n) * 2)) := by simp [inBar]
  rw [hin]
  generalize hlo : (if f < n then f else n) = lo
  generalize hhi : (if f > n then f else n) = hi
  have hhi' : (if n < f then f else n) = hi := hhi
  simp only []
  by_cases h1 : lo * 2 < t
  · by_cases h2 : t < hi * 2
    · cases a <;> simp [f81_b0, hw.ev, hw.get, hx, dLB, bindT, setAll, op2, hlo, hhi', h1, h2, sW]
    · simp [f81_b0, hw.ev, hw.get, hx, dLB, bindT, setAll, op2, hlo, hhi', h1, h2]
  · simp [f81_b0, hw.ev, hw.get, hx, dLB, bindT, setAll, op2, hlo, hhi', h1]
theorem l81 (cl : Nat → List W → Mem → Rs W) (n0 : Nat) (lb : LBars) (hn : (lb.map (·.1)).Nodup) (w : W) (hw : Rd M w (dKB dLB lb)) (t : Int) : ∀ (bs : LBars), (∀ b ∈ bs, b ∈ lb) → ∀ (x2 x3 x4 x5 : Option W),
    (covR bs t = true ∧ loopS cl n0 (.v 2) f81_b0 (bs.map fun b => .int (b.1 : Int)) [some w, some (.v (.int t)), x2, x3, x4, x5] M = .rt (.v (.bl true)) M) ∨ (covR bs t = false ∧ (loopS cl n0 (.v 2) f81_b0 (bs.map fun b => .int (b.1 : Int)) [some w, some (.v (.int t)), x2, x3, x4, x5] M = .rt (.v (.bl false)) M ∨ ∃ y2 y3 y4 y5 : Option W, loopS cl n0 (.v 2) f81_b0 (bs.map fun b => .int (b.1 : Int)) [some w, some (.v (.int t)), x2, x3, x4, x5] M = .nx [some w, some (.v (.int t)), y2, y3, y4, y5] M))
  | [], _, x2, x3, x4, x5 => .inr ⟨rfl, .inr ⟨x2, x3, x4, x5, rfl⟩⟩
  | (i, b) :: bs, h, x2, x3, x4, x5 => by
    have hb := b81 cl n0 lb w hw t i b (lkB_of hn (h (i, b) (by simp))) x3 x4 x5
    rw [List.map_cons, covR]
    cases hin : inBar b.2 t with
    | true =>
      rw [hin, if_pos rfl] at hb
      rw [loopS_rt (v2 := _) (by rfl) hb, if_pos rfl]
      cases hb1 : b.1
      · exact .inr ⟨rfl, .inl rfl⟩
      · exact .inl ⟨rfl, rfl⟩
    | false =>
      rw [hin, if_neg (by simp)] at hb
      rw [loopS_nx (v2 := _) (by rfl) hb, if_neg (by simp)]
      exact l81 cl n0 lb hn w hw t bs (fun b hb => h b (by simp [hb])) _ _ _ _
theorem c81 (T : TL tbl) (k : Nat) (lb : LBars) (hn : (lb.map (·.1)).Nodup) (w : W) (hw : Rd M w (dKB dLB lb)) (t : Int) : callF tbl (k+1) 81 [w, .v (.int t)] M = .ok (.v (.bl (covL lb t))) M := by
  have hr : (List.map (fun b : Nat × (Bool × (Int × Int)) => D.int (b.1 : Int)) lb).reverse = lb.reverse.map fun b => D.int (b.1 : Int) := by rw [List.map_reverse]
  have hl := l81 (M := M) (callF tbl k) M.length lb hn w hw t lb.reverse (fun b hb => by simpa using hb) none none none none
  rw [cfl T.h81]
  unfold covL
  rcases hl with ⟨h1, h2⟩ | ⟨h1, h2 | ⟨y2, y3, y4, y5, h2⟩⟩ <;> simp [f81, hw.ev, hw.toV, hw.get, blist_code, hr, h1, h2, -List.map_reverse]
theorem bi_sset (ns : List Int) (h : ns.length < 64) : bi .sortSet [.lst (ns.map .int)] = some (.lst ((setSort ns).map .int)) := by
  show (allInt (ns.map .int)).bind _ = _
  rw [allInt_map]; simp [h]
theorem c82 (T : TL tbl) (k : Nat) (lb : LBars) (hn : (lb.map (·.1)).Nodup) (hl : lb.length ≤ 20) (w : W) (hw : Rd M w (dKB dLB lb)) : callF tbl (k+2) 82 [w] M = .ok (.n ((lfaces lb).map .int)) M := by
  have f1 : ∀ x1 x2 x3, lcS (callF tbl (k+1)) (.idx (.idx (.var 0) (.var 3)) (.lit (.int 1))) (.v 3) .no (lb.map fun b => .int (b.1 : Int)) [some w, x1, x2, x3] M = .ok (.n ((lb.map fun b => b.2.2.1).map .int)) M := by
    intro x1 x2 x3
    rw [List.map_map]
    refine lcS_map (α := Nat × (Bool × (Int × Int))) _ _ _ ?_ (by simp; omega)
    intro b hb
    have hi : idxD (dKB dLB lb) (.int b.1) = some (dLB b.2) := by rw [idx_code, lkB_of hn hb]; rfl
    simp [lcB, bindT, wipeE, Tg.own, hw.ev, hw.get, hi, dLB]
  have f2 : ∀ x1 x2 x3, lcS (callF tbl (k+1)) (.idx (.idx (.var 0) (.var 3)) (.lit (.int 2))) (.v 3) .no (lb.map fun b => .int (b.1 : Int)) [some w, x1, x2, x3] M = .ok (.n ((lb.map fun b => b.2.2.2).map .int)) M := by
    intro x1 x2 x3
    rw [List.map_map]
    refine lcS_map (α := Nat × (Bool × (Int × Int))) _ _ _ ?_ (by simp; omega)
    intro b hb
    have hi : idxD (dKB dLB lb) (.int b.1) = some (dLB b.2) := by rw [idx_code, lkB_of hn hb]; rfl
    simp [lcB, bindT, wipeE, Tg.own, hw.ev, hw.get, hi, dLB]
  have hss : (setSort (lends lb)).length ≤ 64 := by
    have : (setSort (lends lb)).length ≤ (lends lb).length := List.Nodup.length_le_of_subset ((rise_setSort _).imp (by omega)) (fun x hx => mem_setSort.mp hx)
    have e : (lends lb).length = 2 * lb.length := by simp [lends]; omega
    omega
  have f3 : ∀ x1 x2 x3, lcS (callF tbl (k+1)) (.var 2) (.v 2) (.so (.b2 .ne (.call 81 (.cons (.var 0) (.cons (.b2 .sub (.b2 .mul (.lit (.int 2)) (.var 2)) (.lit (.int 1))) .nil))) (.call 81 (.cons (.var 0) (.cons (.b2 .add (.b2 .mul (.lit (.int 2)) (.var 2)) (.lit (.int 1))) .nil))))) ((setSort (lends lb)).map .int) [some w, x1, x2, x3] M = .ok (.n ((lfaces lb).map .int)) M := by
    intro x1 x2 x3
    refine lcS_flt D.int _ _ _ ?_ (by simp; omega)
    intro p _
    simp [lcB, bindT, wipeE, Tg.own, hw.ev, hw.toV, op2, c81 T k lb hn w hw]
    cases covL lb (2 * p - 1) <;> cases covL lb (2 * p + 1) <;> rfl
  have hs := bi_sset (lends lb) (by simp [lends]; omega)
  rw [lends, List.map_append] at hs
  rw [lends] at f3 hss
  rw [cfl T.h82]
  have hx : lb.length + lb.length ≤ 16777216 := by omega
  generalize hA : (lb.map fun b => b.2.2.1) = A at f1 f3 hs hss
  generalize hB : (lb.map fun b => b.2.2.2) = B at f2 f3 hs hss
  have hx : A.length + B.length ≤ 16777216 := by rw [← hA, ← hB]; simp; omega
  simp [f82, isPv, hw.ev, hw.get, keysD_code, E.ro, Es.ro, OE.ro, f1, f2, op2, hx, hs, f3]
end
end P
end Bf

set_option Elab.async false
set_option linter.all false
namespace Bf
namespace P
open PySem
/-! ### the law's defs: marks, places, a run -/
theorem lkB_bars : ∀ (lb : LBars) (i : Nat), lkB (bars lb) i = (lkB lb i).map (·.2)
  | [], _ => rfl
  | (j, b) :: lb, i => by
    show lkB ((j, b.2) :: bars lb) i = _
    rw [lkB, lkB, lkB_bars lb i]; split <;> rfl
theorem keys_bars (lb : LBars) : (bars lb).map (·.1) = lb.map (·.1) := by simp [bars]
theorem srt_sort (lb : LBars) : (lb.map fun b => D.int (b.1 : Int)).mergeSort dLe = (srtK (bars lb)).map fun (i : Nat) => .int (i : Int) := by
  have h := sort_code (fun (i : Nat) => D.int (i : Int)) (fun a b h => inj_int h) (xs := lb.map (·.1)) (ys := srtK (bars lb)) (by rw [← keys_bars]; exact (List.mergeSort_perm _ _).symm) ?_
  · rw [List.map_map] at h; exact h
  · have h1 : (srtK (bars lb)).Pairwise fun a b => decide (a ≤ b) = true := List.pairwise_mergeSort (by intro a b c; simp; omega) (by intro a b; simp; omega) _
    refine h1.imp ?_
    intro a b hab
    have := of_decide_eq_true hab
    exact dLe_int (by omega)
theorem srt_sortable (lb : LBars) : sortable (lb.map fun b => D.int (b.1 : Int)) = true := by
  have := sortable_int (lb.map fun b => (b.1 : Int)); rw [List.map_map] at this; exact this
section
variable {tbl : Nat → Option FD} {M : Mem}
theorem b83 (cl : Nat → List W → Mem → Rs W) (n0 : Nat) (lb : LBars) (w : W) (hw : Rd M w (dKB dLB lb)) (p : Int) (i : Nat) (b : Bool × (Int × Int)) (hb : lkB lb i = some b) (acc : Marks) (ha : acc.length ≤ 1000) (x4 x5 x6 x7 x8 : Option W) :
    ∃ y4 y5 y6 y7 y8 : Option W, evSs cl n0 f83_b0 [some w, some (.v (.int p)), some (.v (.lst (acc.map dMark))), some (.v (.int i)), x4, x5, x6, x7, x8] M = .nx [some w, some (.v (.int p)), some (.v (.lst ((acc ++ markOf i p b.2).map dMark))), some (.v (.int i)), y4, y5, y6, y7, y8] M := by
  have hx : idxD (dKB dLB lb) (.int i) = some (dLB b) := by rw [idx_code, hb]; rfl
  rcases b with ⟨a, n, f⟩
  have f1 : ∀ x2 x4 x5 x6 x7 x8, lcS cl (.tup (.cons (.var 3) (.cons (.var 7) .nil))) (.t [7, 8]) (.so (.b2 .eq (.var 8) (.var 1))) [.tup [.str "far", .int f], .tup [.str "near", .int n]] [some w, some (.v (.int p)), x2, some (.v (.int i)), x4, x5, x6, x7, x8] M = .ok (.n ((markOf i p (n, f)).map dMark)) M := by
    intro x2 x4 x5 x6 x7 x8
    have h2 : [D.tup [.str "far", .int f], .tup [.str "near", .int n]] = [(false, f), (true, n)].map fun (q : Bool × Int) => D.tup [sW q.1 "near" "far", .int q.2] := by simp [sW]
    rw [h2, lcS_flt (fun (q : Bool × Int) => D.tup [sW q.1 "near" "far", .int q.2]) (fun q => decide (q.2 = p)) (fun q => dMark (i, q.1)) [(false, f), (true, n)] ?_ (by simp)]
    · by_cases h1 : f = p <;> by_cases h2 : n = p <;> simp [markOf, h1, h2, List.filter]
    · rintro ⟨q, z⟩ _
      by_cases hz : z = p
      · simp [lcB, bindT, setAll, wipeE, Tg.own, op2, hz, dMark]
      · simp [lcB, bindT, setAll, wipeE, Tg.own, op2, hz, beqN hz]
  have hm : (markOf i p (n, f)).length ≤ 2 := by
    by_cases h1 : f = p <;> by_cases h2 : n = p <;> simp [markOf, h1, h2]
  have hlen : acc.length + (markOf i p (n, f)).length ≤ 16777216 := by omega
  refine ⟨some (.v (sW a "add" "cut")), some (.v (.int n)), some (.v (.int f)), x7, x8, ?_⟩
  simp [f83_b0, hw.ev, hw.get, hx, dLB, bindT, setAll, f1, op2, hlen]
theorem l83 (cl : Nat → List W → Mem → Rs W) (n0 : Nat) (lb : LBars) (w : W) (hw : Rd M w (dKB dLB lb)) (p : Int) : ∀ (is : List Nat), (∀ i ∈ is, ∃ b, lkB lb i = some b) → ∀ (acc : Marks), acc.length + 2 * is.length ≤ 1000 → ∀ (x3 x4 x5 x6 x7 x8 : Option W), ∃ y3 y4 y5 y6 y7 y8 : Option W,
    loopS cl n0 (.v 3) f83_b0 (is.map fun (i : Nat) => .int (i : Int)) [some w, some (.v (.int p)), some (.v (.lst (acc.map dMark))), x3, x4, x5, x6, x7, x8] M = .nx [some w, some (.v (.int p)), some (.v (.lst ((acc ++ is.flatMap fun i => match lkB (bars lb) i with
      | some b => markOf i p b
      | none => []).map dMark))), y3, y4, y5, y6, y7, y8] M
  | [], _, acc, _, x3, x4, x5, x6, x7, x8 => ⟨x3, x4, x5, x6, x7, x8, by simp [loopS_nil]⟩
  | i :: is, h, acc, ha, x3, x4, x5, x6, x7, x8 => by
    obtain ⟨b, hb⟩ := h i (by simp)
    rw [List.length_cons] at ha
    obtain ⟨y4, y5, y6, y7, y8, e⟩ := b83 (M := M) cl n0 lb w hw p i b hb acc (by omega) x4 x5 x6 x7 x8
    have hm : (markOf i p b.2).length ≤ 2 := by
      unfold markOf; split <;> split <;> simp
    obtain ⟨z3, z4, z5, z6, z7, z8, ih⟩ := l83 cl n0 lb w hw p is (fun j hj => h j (by simp [hj])) (acc ++ markOf i p b.2) (by simp; omega) (some (.v (.int i))) y4 y5 y6 y7 y8
    refine ⟨z3, z4, z5, z6, z7, z8, ?_⟩
    rw [List.map_cons, loopS_nx (v2 := _) (by rfl) e, ih, List.flatMap_cons, lkB_bars, hb]
    simp only [Option.map_some, List.append_assoc]
theorem c83 (T : TL tbl) (k : Nat) (lb : LBars) (hn : (lb.map (·.1)).Nodup) (hl : lb.length ≤ 20) (w : W) (hw : Rd M w (dKB dLB lb)) (p : Int) : callF tbl (k+1) 83 [w, .v (.int p)] M = .ok (.v (dMarks (marksAt (bars lb) p))) M := by
  have hm : ∀ i ∈ srtK (bars lb), ∃ b, lkB lb i = some b := by
    intro i hi
    obtain ⟨b, hb⟩ := srtK_mem.mp hi
    obtain ⟨⟨j, c⟩, hc, e⟩ := List.mem_map.mp hb
    injection e with e1 e2; subst e1
    exact ⟨c, lkB_of hn hc⟩
  have hlen : (srtK (bars lb)).length = lb.length := by rw [srtK, List.length_mergeSort]; simp [bars]
  obtain ⟨y3, y4, y5, y6, y7, y8, ih⟩ := l83 (M := M) (callF tbl k) M.length lb w hw p (srtK (bars lb)) hm [] (by simp; omega) none none none none none none
  rw [List.map_nil, List.nil_append] at ih
  rw [cfl T.h83]
  have e0 : marksAt (bars lb) p = (srtK (bars lb)).flatMap fun i => match lkB (bars lb) i with
      | some b => markOf i p b
      | none => [] := rfl
  rw [← e0] at ih
  simp [f83, hw.ev, hw.toV, hw.get, blist_code, srt_sortable, srt_sort, ih, dMarks]
end
/-- where a name stands, of some faces -/
def placeF (fs : List Int) (bars : Bars) : Nm → Option Int
  | .start => some 0
  | .count l k => (if l then fs else fs.reverse)[k]?
  | .ende j n => match lkB bars j with
    | none => none
    | some b => if fs.contains (if n then b.1 else b.2) then some (if n then b.1 else b.2) else none
  | .beside j l => match lkB bars j with
    | none => none
    | some b => if l then (fs.filter fun f => decide (f < b.2)).getLast? else (fs.filter fun f => decide (b.2 < f)).head?
theorem placeOf_F (sh : Pc) (bs : Bars) (m : Nm) : placeOf sh bs m = placeF (faces sh) bs m := by cases m <;> rfl
theorem maxI_last : ∀ (ns : List Int) (m : Int), (m :: ns).Pairwise (· < ·) → (m :: ns).getLast? = some (maxI m ns)
  | [], m, _ => rfl
  | n :: ns, m, h => by
    have h1 : m < n := (List.pairwise_cons.mp h).1 n (by simp)
    rw [List.getLast?_cons_cons, maxI, if_pos (by omega)]
    exact maxI_last ns n (List.pairwise_cons.mp h).2
theorem minI_head : ∀ (ns : List Int) (m : Int), (m :: ns).Pairwise (· < ·) → minI m ns = m
  | [], m, _ => rfl
  | n :: ns, m, h => by
    have h1 : m < n := (List.pairwise_cons.mp h).1 n (by simp)
    rw [minI, if_neg (by omega)]
    refine minI_head ns m (List.pairwise_cons.mpr ⟨fun x hx => (List.pairwise_cons.mp h).1 x (by simp [hx]), ?_⟩)
    exact (List.pairwise_cons.mp (List.pairwise_cons.mp h).2).2
theorem lfaces_lt (lb : LBars) : (lfaces lb).Pairwise (· < ·) := (rise_setSort _).filter _
section
variable {tbl : Nat → Option FD} {M : Mem}
theorem bi_maxl (n : Int) (ns : List Int) : bi .max [.lst (.int n :: ns.map .int)] = some (.int (maxI n ns)) := by
  have := allInt_map (n :: ns); rw [List.map_cons] at this
  show (match allInt (D.int n :: ns.map .int) with | some (m :: ns) => some (D.int (maxI m ns)) | _ => none) = _
  rw [this]
theorem bi_minl (n : Int) (ns : List Int) : bi .min [.lst (.int n :: ns.map .int)] = some (.int (minI n ns)) := by
  have := allInt_map (n :: ns); rw [List.map_cons] at this
  show (match allInt (D.int n :: ns.map .int) with | some (m :: ns) => some (D.int (minI m ns)) | _ => none) = _
  rw [this]
theorem c84 (T : TL tbl) (k : Nat) (lb : LBars) (hn : (lb.map (·.1)).Nodup) (hl : lb.length ≤ 20) (w : W) (hw : Rd M w (dKB dLB lb)) (m : Nm) (hk : nmOk 100 m) : callF tbl (k+3) 84 [w, .v (dNm m)] M = .ok (.v (dPl (placeF (lfaces lb) (bars lb) m))) M := by
  have e82 := c82 (M := M) T k lb hn hl w hw
  have hlt := lfaces_lt lb
  have hlen : (lfaces lb).length ≤ 1000 := by
    have : (setSort (lends lb)).length ≤ (lends lb).length := List.Nodup.length_le_of_subset ((rise_setSort _).imp (by omega)) (fun x hx => mem_setSort.mp hx)
    have e : (lends lb).length = 2 * lb.length := by simp [lends]; omega
    have : (lfaces lb).length ≤ (setSort (lends lb)).length := List.length_filter_le _ _
    omega
  have es := eqD_start m
  rw [cfl T.h84]
  generalize lfaces lb = fs at e82 hlt hlen
  cases m with
  | start =>
    simp only [dNm, isStart] at es
    simp [f84, dNm, op2, es, hw.ev, hw.toV, e82, placeF, dPl]
  | count l n =>
    simp only [dNm, isStart] at es
    cases l with
    | true =>
      rw [show sW true "left" "right" = .str "left" from rfl] at es
      by_cases hn : n < fs.length
      · have a1 : (n : Int) < fs.length := by omega
        simp [f84, dNm, op2, es, hw.ev, hw.toV, e82, placeF, sW, hn, ixD_l, dPl]
      · have h0 : fs[n]? = none := by simp; omega
        simp [f84, dNm, op2, es, hw.ev, hw.toV, e82, placeF, sW, hn, ixD_l, dPl, h0]
    | false =>
      rw [show sW false "left" "right" = .str "right" from rfl] at es
      by_cases hn : n < fs.length
      · have a0 : (fs.length : Int) - 1 - n = ((fs.length - 1 - n : Nat) : Int) := by omega
        have a1 : (0 : Int) ≤ (fs.length : Int) - 1 - n := by omega
        have a2 : (fs.length : Int) - 1 - n < fs.length := by omega
        have a3 : fs.length - 1 - n < fs.length := by omega
        have h0 : fs.reverse[n]? = some (fs[fs.length - 1 - n]) := by rw [List.getElem?_reverse hn]; simp [a3]
        have h1 : idxD (.lst (fs.map .int)) (.int ((fs.length : Int) - 1 - n)) = some (.int (fs[fs.length - 1 - n])) := by rw [a0, ixD_l]; simp [a3]
        simp [f84, dNm, op2, es, hw.ev, hw.toV, e82, placeF, sW, a1, a2, h1, dPl, h0, -Int.sub_nonneg, -List.getElem?_reverse]
      · have h0 : fs.reverse[n]? = none := by simp; omega
        have a1 : ¬ (0 : Int) ≤ (fs.length : Int) - 1 - n := by omega
        simp [f84, dNm, op2, es, hw.ev, hw.toV, e82, placeF, sW, a1, dPl, h0, -Int.sub_nonneg, -List.getElem?_reverse]
  | ende j n =>
    simp only [dNm, isStart] at es
    cases hb : lkB lb j with
    | none => simp [f84, dNm, op2, es, hw.ev, hw.toV, hw.rd, e82, placeF, in_code, lkB_bars, hb, dPl]
    | some b =>
      rcases b with ⟨a, u, v⟩
      cases n with
      | true =>
        rw [show sW true "near" "far" = .str "near" from rfl] at es
        cases hcn : fs.contains u <;> simp [f84, dNm, op2, es, hw.ev, hw.toV, hw.get, hw.rd, e82, placeF, in_code, idx_code, lkB_bars, hb, dPl, sW, dLB, inB_ints, hcn, -List.contains_eq_mem]
      | false =>
        rw [show sW false "near" "far" = .str "far" from rfl] at es
        cases hcn : fs.contains v <;> simp [f84, dNm, op2, es, hw.ev, hw.toV, hw.get, hw.rd, e82, placeF, in_code, idx_code, lkB_bars, hb, dPl, sW, dLB, inB_ints, hcn, -List.contains_eq_mem]
  | beside j l =>
    simp only [dNm, isStart] at es
    cases hb : lkB lb j with
    | none => simp [f84, dNm, op2, es, hw.ev, hw.toV, hw.rd, e82, placeF, in_code, lkB_bars, hb, dPl]
    | some b =>
      rcases b with ⟨a, u, v⟩
      cases l with
      | true =>
        rw [show sW true "left" "right" = .str "left" from rfl] at es
        have f1 : ∀ x1 x2 x4 x5 x6 x7, lcS (callF tbl (k+2)) (.var 7) (.v 7) (.so (.b2 .lt (.var 7) (.var 3))) (fs.map .int) [some w, x1, x2, some (.v (.int v)), x4, x5, x6, x7] M = .ok (.n ((fs.filter fun f => decide (f < v)).map .int)) M := by
          intro x1 x2 x4 x5 x6 x7
          refine lcS_flt D.int (fun f => decide (f < v)) D.int fs ?_ (by simp; omega)
          intro x _
          by_cases hx : x < v <;> simp [lcB, bindT, wipeE, Tg.own, op2, hx]
        have hg : (fs.filter fun f => decide (f < v)).Pairwise (· < ·) := hlt.filter _
        generalize hgs : (fs.filter fun f => decide (f < v)) = gs at f1 hg
        have e0 := eqD_ints gs []
        rw [List.map_nil] at e0
        cases gs with
        | nil =>
          rw [List.map_nil, show (([] : List Int) == []) = true from rfl] at e0
          simp [f84, dNm, op2, es, hw.ev, hw.toV, hw.get, hw.rd, e82, placeF, in_code, idx_code, lkB_bars, hb, dPl, sW, dLB, f1, e0, hgs]
        | cons g gs =>
          rw [show ((g :: gs : List Int) == []) = false from rfl, List.map_cons] at e0
          simp [f84, dNm, op2, es, hw.ev, hw.toV, hw.get, hw.rd, e82, placeF, in_code, idx_code, lkB_bars, hb, dPl, sW, dLB, f1, e0, hgs, bi_maxl, bi_minl, maxI_last gs g hg]
      | false =>
        rw [show sW false "left" "right" = .str "right" from rfl] at es
        have f1 : ∀ x1 x2 x4 x5 x6 x7, lcS (callF tbl (k+2)) (.var 7) (.v 7) (.so (.b2 .gt (.var 7) (.var 3))) (fs.map .int) [some w, x1, x2, some (.v (.int v)), x4, x5, x6, x7] M = .ok (.n ((fs.filter fun f => decide (v < f)).map .int)) M := by
          intro x1 x2 x4 x5 x6 x7
          refine lcS_flt D.int (fun f => decide (v < f)) D.int fs ?_ (by simp; omega)
          intro x _
          by_cases hx : v < x <;> simp [lcB, bindT, wipeE, Tg.own, op2, hx]
        have hg : (fs.filter fun f => decide (v < f)).Pairwise (· < ·) := hlt.filter _
        generalize hgs : (fs.filter fun f => decide (v < f)) = gs at f1 hg
        have e0 := eqD_ints gs []
        rw [List.map_nil] at e0
        cases gs with
        | nil =>
          rw [List.map_nil, show (([] : List Int) == []) = true from rfl] at e0
          simp [f84, dNm, op2, es, hw.ev, hw.toV, hw.get, hw.rd, e82, placeF, in_code, idx_code, lkB_bars, hb, dPl, sW, dLB, f1, e0, hgs]
        | cons g gs =>
          rw [show ((g :: gs : List Int) == []) = false from rfl, List.map_cons] at e0
          simp [f84, dNm, op2, es, hw.ev, hw.toV, hw.get, hw.rd, e82, placeF, in_code, idx_code, lkB_bars, hb, dPl, sW, dLB, f1, e0, hgs, bi_maxl, bi_minl, minI_head gs g hg]
end
end P
end Bf

set_option Elab.async false
set_option linter.all false
namespace Bf
namespace P
open PySem
/-! ### the law's run and drawing -/
def lbStep (sz : Int × Int) (r : RunS) (lb : LBars) (i : Nat) (s : Stp) : LBars := match placeOf r.shown r.bars s.nm with
  | none => lb
  | some p => lb ++ [(i, (s.add, (p, p + long s.len sz * (if s.right then 1 else -1))))]
theorem Rel.lstep {r : RunS} {lb : LBars} (h : Rel r lb) (i : Nat) (s : Stp) (sz : Int × Int) (hl : lenOk s.len) (h1 : 0 < sz.1) (h2 : 0 < sz.2) : Rel (runStep sz r i s) (lbStep sz r lb i s) := by
  have hw : long s.len sz * (if s.right then 1 else -1) ≠ 0 := by have := long_pos hl h1 h2; split <;> omega
  unfold runStep lbStep
  cases placeOf r.shown r.bars s.nm with
  | none => exact ⟨h.norm, h.bars, h.cov, h.ends⟩
  | some p => exact h.step (r' := step1 r i s) rfl rfl i s.add p _ hw
theorem Rel.zero : Rel run0 [] := ⟨run0_RI.norm, rfl, fun _ _ => rfl, fun _ h => nomatch h⟩
section
variable {M : Mem} (a b c d : D)
@[simp] theorem ga0 : (M ++ [a, b, c])[M.length]? = some a := by simp
@[simp] theorem ga1 : (M ++ [a, b, c])[M.length + 1]? = some b := by simp
@[simp] theorem ga2 : (M ++ [a, b, c])[M.length + 2]? = some c := by simp
@[simp] theorem sa0 : (M ++ [a, b, c]).set M.length d = M ++ [d, b, c] := by simp
@[simp] theorem sa1 : (M ++ [a, b, c]).set (M.length + 1) d = M ++ [a, d, c] := by simp [List.set_append_right]
@[simp] theorem sa2 : (M ++ [a, b, c]).set (M.length + 2) d = M ++ [a, b, d] := by simp [List.set_append_right]
end
section
variable {tbl : Nat → Option FD} {M : Mem}
theorem lks : ∀ {α : Type} (bs : List (Nat × α)) (i : Nat), i ∉ bs.map (·.1) → ∀ b ∈ bs, b.1 ≠ i := fun bs i h b hb e => h (List.mem_map.mpr ⟨b, hb, e⟩)
theorem isD_code {α : Type} (c : α → D) (bs : List (Nat × α)) : isDct (some (dKB c bs)) = true := rfl
theorem b85 (T : TL tbl) (k n0 : Nat) (r : RunS) (lb : LBars) (hr : RI r) (hR : Rel r lb) (hb : r.ho.length ≤ 8) (ss : List Stp) (sz : Int × Int) (O : D) (i : Nat) (s : Stp) (hi : ss[i]? = some s) (hs : stpOk 100 s) (h1 : 0 < sz.1) (h2 : 0 < sz.2) (hf : i ∉ r.ho.map (·.1)) (x7 x8 x9 x10 x11 x12 x13 : Option W) : ∃ y7 y8 y9 y10 y11 y12 y13 : Option W,
    evSs (callF tbl (k+3)) n0 f85_b0 [some (.v (dStps ss)), some (.v (dP sz)), some (.v O), some (.c M.length), some (.c (M.length + 1)), some (.c (M.length + 2)), some (.v (.int i)), x7, x8, x9, x10, x11, x12, x13] (M ++ [dKB dLB lb, dKB dFM r.fm, dKB dHo r.ho]) = .nx [some (.v (dStps ss)), some (.v (dP sz)), some (.v O), some (.c M.length), some (.c (M.length + 1)), some (.c (M.length + 2)), some (.v (.int i)), y7, y8, y9, y10, y11, y12, y13] (M ++ [dKB dLB (lbStep sz r lb i s), dKB dFM (runStep sz r i s).fm, dKB dHo (runStep sz r i s).ho]) := by
  have hbl : lb.length ≤ 8 := by have := congrArg List.length hR.bars; simp [bars] at this; have := hr.bl; omega
  have hn : (lb.map (·.1)).Nodup := by rw [← keys_bars, ← hR.bars]; exact hr.nd
  have hfh : ∀ b ∈ r.ho, b.1 ≠ i := lks _ _ hf
  have hff : ∀ b ∈ r.fm, b.1 ≠ i := lks _ _ (by rw [hr.ks]; exact hf)
  have hfb : ∀ b ∈ lb, b.1 ≠ i := by
    intro b hb e
    exact hf (by have := hr.sub (b.1, b.2.2) (by rw [hR.bars]; exact List.mem_map.mpr ⟨b, hb, rfl⟩); rw [← e]; exact this)
  have hfl : r.fm.length < 1000 := by have := congrArg List.length hr.ks; simp at this; omega
  have hol : r.ho.length < 1000 := by omega
  have es := eqD_start s.nm
  have ix : idxD (dStps ss) (.int (i : Int)) = some (.tup [sW s.add "add" "cut", dNm s.nm, sW s.right "right" "left", dP s.len]) := by
    rw [dStps, ixD_t, List.getElem?_map, hi]; rfl
  have hrd : ∀ b c : D, Rd (M ++ [dKB dLB lb, b, c]) (.c M.length) (dKB dLB lb) := fun b c => .c _ _ (by simp)
  have hpf : placeF (lfaces lb) (bars lb) s.nm = placeOf r.shown r.bars s.nm := by rw [placeOf_F, hR.faces, hR.bars]
  have e84 := c84 T k lb hn (by omega) (.c M.length) (hrd (dKB dFM r.fm) (dKB dHo r.ho)) s.nm hs.1
  rw [hpf] at e84
  have e82 : callF tbl (k+3) 82 [.c M.length] (M ++ [dKB dLB lb, dKB dFM r.fm, dKB dHo r.ho]) = _ := c82 T (k+1) lb hn (by omega) (.c M.length) (hrd (dKB dFM r.fm) (dKB dHo r.ho))
  rw [hR.faces] at e82
  have hfs : (faces r.shown).length ≤ 2000 := by
    have : ∀ ps : Pc, (faces ps).length = 2 * ps.length := by
      intro ps; unfold faces
      induction ps with
      | nil => rfl
      | cons p ps ih => rw [List.flatMap_cons, List.length_append, ih, List.length_cons]; simp; omega
    have hl9 : r.shown.length < 1000 := Nat.lt_of_lt_of_le hr.len (Nat.le_trans (Nat.pow_le_pow_right (by omega) hb) (by decide))
    rw [this]; omega
  have e83 : ∀ (b c : D) (p : Int), callF tbl (k+3) 83 [.c M.length, .v (.int p)] (M ++ [dKB dLB lb, b, c]) = .ok (.v (dMarks (marksAt r.bars p))) (M ++ [dKB dLB lb, b, c]) := by
    intro b c p
    have := c83 T (k+2) lb hn (by omega) (.c M.length) (hrd b c) p
    rw [← hR.bars] at this; exact this
  have f1 : ∀ x7 x8 x9 x10 x11 x12 x13, lcS (callF tbl (k+3)) (.call 83 (.cons (.var 3) (.cons (.var 13) .nil))) (.v 13) .no ((faces r.shown).map .int) [some (.v (dStps ss)), some (.v (dP sz)), some (.v O), some (.c M.length), some (.c (M.length + 1)), some (.c (M.length + 2)), some (.v (.int i)), x7, x8, x9, x10, x11, x12, x13] (M ++ [dKB dLB lb, dKB dFM r.fm, dKB dHo r.ho]) = .ok (.n (((faces r.shown).map (marksAt r.bars)).map dMarks)) (M ++ [dKB dLB lb, dKB dFM r.fm, dKB dHo r.ho]) := by
    intro x7 x8 x9 x10 x11 x12 x13
    rw [List.map_map]
    refine lcS_map D.int _ _ ?_ (by simp; omega)
    intro p _
    simp [lcB, bindT, wipeE, Tg.own, e83]
  have p1 := putD_new dHo r.ho i ((faces r.shown).map (marksAt r.bars)) hfh hol
  have p2 := putD_new dFM r.fm i none hff hfl
  simp only [dHo] at p1
  simp only [dFM] at p2
  cases hpl : placeOf r.shown r.bars s.nm with
  | none =>
    rw [hpl] at e84
    refine ⟨some (.v .non), some (.v (sW s.add "add" "cut")), some (.v (dNm s.nm)), some (.v (sW s.right "right" "left")), some (.v (dP s.len)), x12, x13, ?_⟩
    have er : runStep sz r i s = { r with ho := r.ho ++ [(i, (faces r.shown).map (marksAt r.bars))], fm := r.fm ++ [(i, none)] } := by
      simp [runStep, hpl, step1, fmOf]
    have el : lbStep sz r lb i s = lb := by simp [lbStep, hpl]
    rw [er, el]
    generalize ((faces r.shown).map (marksAt r.bars)) = H at f1 p1 ⊢
    simp [f85_b0, ix, bindT, setAll, e84, dPl, e82, f1, p1, p2, op2, isNonD, E.ro, Es.ro, OE.ro]
  | some p =>
    rw [hpl] at e84
    have e78 : ∀ N, callF tbl (k+3) 78 [.v (dP s.len), .v (dP sz)] N = .ok (.v (.int (long s.len sz))) N := fun N => c78 T (k+2) (s := sz) hs.2
    have p3 := putD_last dFM r.fm i none (some (if isStart s.nm then [] else marksAt r.bars p)) hff hfl
    have p4 := putD_new dLB lb i (s.add, (p, p + long s.len sz * (if s.right then 1 else -1))) hfb (by omega)
    have er : runStep sz r i s = doP { r with ho := r.ho ++ [(i, (faces r.shown).map (marksAt r.bars))], fm := r.fm ++ [(i, some (if isStart s.nm then [] else marksAt r.bars p))] } i s.add p (long s.len sz * (if s.right then 1 else -1)) := by
      simp [runStep, hpl, step1, fmOf]
    have el : lbStep sz r lb i s = lb ++ [(i, (s.add, (p, p + long s.len sz * (if s.right then 1 else -1))))] := by simp [lbStep, hpl]
    rw [er, el]
    generalize ((faces r.shown).map (marksAt r.bars)) = H at f1 p1 ⊢
    simp only [dLB] at p4
    simp only [doP]
    refine ⟨some (.v (.int p)), some (.v (sW s.add "add" "cut")), some (.v (dNm s.nm)), some (.v (sW s.right "right" "left")), some (.v (dP s.len)), some (.v (.int (p + long s.len sz * (if s.right then 1 else -1)))), x13, ?_⟩
    generalize sW s.add "add" "cut" = A at p4 ix
    cases hst : isStart s.nm <;> cases hri : s.right <;> simp only [hst, hri, if_true, Bool.false_eq_true, if_false, dFM, dMarks, List.map_nil, Int.mul_neg, Int.mul_one] at es p3 p4 ⊢ <;>
    simp [f85_b0, ix, bindT, setAll, e84, dPl, e82, e83, f1, p1, p2, p3, p4, op2, isNonD, E.ro, Es.ro, OE.ro, es, e78, sW, hri, dMarks]
end
end P
end Bf

set_option Elab.async false
set_option linter.all false
namespace Bf
namespace P
open PySem
/-! ### the law's run, drawing and whole -/
structure TW0 (tbl : Nat → Option FD) : Prop extends TL tbl where
  h87 : tbl 87 = some f87
structure TW (tbl : Nat → Option FD) : Prop extends TW0 tbl where
  h86 : tbl 86 = some f86
def lbG (sz : Int × Int) (ss : List Stp) : RunS → LBars → List Nat → LBars
  | _, lb, [] => lb
  | r, lb, i :: is => match ss[i]? with
    | some s => lbG sz ss (runStep sz r i s) (lbStep sz r lb i s) is
    | none => lbG sz ss r lb is
def dRunL (lb : LBars) (r : RunS) : D := .lst [dKB dLB lb, dKB dFM r.fm, dKB dHo r.ho]
/-- fit steps -/
def StpsFit (ss : List Stp) : Prop := ss.length ≤ 9 ∧ ∀ s ∈ ss, stpOk 100 s
theorem StpsFit.len {ss : List Stp} (h : StpsFit ss) : ∀ s ∈ ss, lenOk s.len := fun s hs => (h.2 s hs).2
theorem faces_len : ∀ ps : Pc, (faces ps).length = 2 * ps.length
  | [] => rfl
  | p :: ps => by rw [faces_cons, List.length_cons, List.length_cons, faces_len ps, List.length_cons]; omega
theorem faces_get0 : ∀ (ps : Pc) (k : Nat), (faces ps)[2 * k]? = (ps[k]?).map (·.1)
  | [], k => by simp [faces]
  | p :: ps, 0 => rfl
  | p :: ps, k + 1 => by
    rw [faces_cons, show 2 * (k + 1) = (2 * k + 1) + 1 from by omega, List.getElem?_cons_succ, List.getElem?_cons_succ, List.getElem?_cons_succ]; exact faces_get0 ps k
theorem faces_get1 : ∀ (ps : Pc) (k : Nat), (faces ps)[2 * k + 1]? = (ps[k]?).map (·.2)
  | [], k => by simp [faces]
  | p :: ps, 0 => rfl
  | p :: ps, k + 1 => by
    rw [faces_cons, show 2 * (k + 1) + 1 = (2 * k + 1) + 1 + 1 from by omega, List.getElem?_cons_succ, List.getElem?_cons_succ, List.getElem?_cons_succ]; exact faces_get1 ps k
theorem range_get {α : Type} (xs : List α) (d : α) : (List.range xs.length).map (fun k => (xs[k]?).getD d) = xs := by
  apply List.ext_getElem
  · simp
  · intro i h1 h2; simp at h1; simp [h1]
section
variable {tbl : Nat → Option FD} {M : Mem}
theorem l85 (T : TL tbl) (k n0 : Nat) (ss : List Stp) (hf : StpsFit ss) (sz : Int × Int) (O : D) (h1 : 0 < sz.1) (h2 : 0 < sz.2) : ∀ (is : List Nat) (r : RunS) (lb : LBars), RI r → Rel r lb → (∀ i ∈ is, i < ss.length) → is.Nodup → (∀ i ∈ is, i ∉ r.ho.map (·.1)) → r.ho.length + is.length ≤ 9 → ∀ x6 x7 x8 x9 x10 x11 x12 x13 : Option W, ∃ (y6 y7 y8 y9 y10 y11 y12 y13 : Option W), Rel (runG sz ss r is) (lbG sz ss r lb is) ∧
    loopS (callF tbl (k+3)) n0 (.v 6) f85_b0 (is.map fun (i : Nat) => .int (i : Int)) [some (.v (dStps ss)), some (.v (dP sz)), some (.v O), some (.c M.length), some (.c (M.length + 1)), some (.c (M.length + 2)), x6, x7, x8, x9, x10, x11, x12, x13] (M ++ [dKB dLB lb, dKB dFM r.fm, dKB dHo r.ho]) = .nx [some (.v (dStps ss)), some (.v (dP sz)), some (.v O), some (.c M.length), some (.c (M.length + 1)), some (.c (M.length + 2)), y6, y7, y8, y9, y10, y11, y12, y13] (M ++ [dKB dLB (lbG sz ss r lb is), dKB dFM (runG sz ss r is).fm, dKB dHo (runG sz ss r is).ho])
  | [], r, lb, _, hR, _, _, _, _, x6, x7, x8, x9, x10, x11, x12, x13 => ⟨x6, x7, x8, x9, x10, x11, x12, x13, hR, rfl⟩
  | i :: is, r, lb, hr, hR, a, b, c, hlen, x6, x7, x8, x9, x10, x11, x12, x13 => by
    have hi : i < ss.length := a i (by simp)
    have hs : ss[i]? = some ss[i] := by simp [hi]
    have hfi := hf.2 _ (List.getElem_mem hi)
    rw [List.length_cons] at hlen
    obtain ⟨y7, y8, y9, y10, y11, y12, y13, hb⟩ := b85 (M := M) T k n0 r lb hr hR (by omega) ss sz O i ss[i] hs hfi h1 h2 (c i (by simp)) x7 x8 x9 x10 x11 x12 x13
    obtain ⟨q1, q2⟩ := runStep_RI hr (s := ss[i]) hfi.2 h1 h2 (c i (by simp))
    have hq := congrArg List.length q2
    simp at hq
    obtain ⟨w6, w7, w8, w9, w10, w11, w12, w13, g, ih⟩ := l85 T k n0 ss hf sz O h1 h2 is (runStep sz r i ss[i]) (lbStep sz r lb i ss[i]) q1 (hR.lstep i _ sz hfi.2 h1 h2) (fun j hj => a j (by simp [hj])) (List.nodup_cons.mp b).2 (by
      intro j hj; rw [q2, List.mem_append]; rintro (h | h)
      · exact c j (by simp [hj]) h
      · simp at h; subst h; exact (List.nodup_cons.mp b).1 hj) (by omega) (some (.v (.int i))) y7 y8 y9 y10 y11 y12 y13
    have e : runG sz ss r (i :: is) = runG sz ss (runStep sz r i ss[i]) is := by rw [runG, hs]
    have e2 : lbG sz ss r lb (i :: is) = lbG sz ss (runStep sz r i ss[i]) (lbStep sz r lb i ss[i]) is := by rw [lbG, hs]
    refine ⟨w6, w7, w8, w9, w10, w11, w12, w13, ?_, ?_⟩
    · rw [e, e2]; exact g
    · rw [List.map_cons, loopS_nx (v2 := _) (by rfl) hb, ih, e, e2]
theorem c85 (T : TL tbl) (k : Nat) (ss : List Stp) (hf : StpsFit ss) (sz : Int × Int) (h1 : 0 < sz.1) (h2 : 0 < sz.2) (is : List Nat) (ho : OrdOk ss is) : Rel (runG sz ss run0 is) (lbG sz ss run0 [] is) ∧ callF tbl (k+4) 85 [.v (dStps ss), .v (dP sz), .v (dOrd is)] M = .ok (.v (dRunL (lbG sz ss run0 [] is) (runG sz ss run0 is))) M := by
  obtain ⟨y6, y7, y8, y9, y10, y11, y12, y13, g, ih⟩ := l85 (M := M) T k M.length ss hf sz (dOrd is) h1 h2 is run0 [] run0_RI Rel.zero ho.lt ho.nd (fun _ _ h => nomatch h) (by have := ho.len; have := hf.1; simp [run0]; omega) none none none none none none none none
  refine ⟨g, ?_⟩
  have hi : items (dOrd is) = some (is.map fun (i : Nat) => .int (i : Int)) := rfl
  have d1 : dKB dLB [] = .dK [] [] := rfl
  have d2 : dKB dFM run0.fm = .dK [] [] := rfl
  have d3 : dKB dHo run0.ho = .dK [] [] := rfl
  rw [d1, d2, d3] at ih
  have v1 : ∀ {α : Type} (c : α → D) (bs : List (Nat × α)), plainC (dKB c bs) = true := fun _ _ => rfl
  rw [cfl T.h85]
  simp [f85, hi, ih, valWs, valW, v1, dRunL]
theorem c86 (T : TW tbl) (k : Nat) (r : RunS) (lb : LBars) (hr : RI r) (hR : Rel r lb) (hb : r.ho.length ≤ 9) (w : W) (hw : Rd M w (dKB dLB lb)) : callF tbl (k+3) 86 [w] M = .ok (.n (r.shown.map dP)) M := by
  have hn : (lb.map (·.1)).Nodup := by rw [← keys_bars, ← hR.bars]; exact hr.nd
  have hbl : lb.length ≤ 9 := by have := congrArg List.length hR.bars; simp [bars] at this; have := hr.bl; omega
  have e82 := c82 (M := M) T.toTL k lb hn (by omega) w hw
  rw [hR.faces] at e82
  have hl9 : r.shown.length ≤ 1000 := Nat.le_of_lt (Nat.lt_of_lt_of_le hr.len (Nat.le_trans (Nat.pow_le_pow_right (by omega) hb) (by decide)))
  have f1 : ∀ x2, lcS (callF tbl (k+2)) (.tup (.cons (.idx (.var 1) (.b2 .mul (.lit (.int 2)) (.var 2))) (.cons (.idx (.var 1) (.b2 .add (.b2 .mul (.lit (.int 2)) (.var 2)) (.lit (.int 1)))) .nil))) (.v 2) .no ((List.range r.shown.length).map fun (i : Nat) => .int (i : Int)) [some w, some (.v (.lst ((faces r.shown).map .int))), x2] M = .ok (.n (r.shown.map dP)) M := by
    intro x2
    have e : r.shown.map dP = (List.range r.shown.length).map fun k => dP ((r.shown[k]?).getD (0, 0)) := by
      rw [← range_get r.shown (0, 0), List.map_map]; simp [range_get]
    rw [e]
    refine lcS_map _ _ _ ?_ (by simp; omega)
    intro i hi
    have hi := List.mem_range.mp hi
    have a0 : idxD (.lst ((faces r.shown).map .int)) (.int (2 * (i : Int))) = some (.int (r.shown[i]).1) := by
      rw [show (2 * (i : Int)) = ((2 * i : Nat) : Int) from by omega, ixD_l, List.getElem?_map, faces_get0]; simp [hi]
    have a1 : idxD (.lst ((faces r.shown).map .int)) (.int (2 * (i : Int) + 1)) = some (.int (r.shown[i]).2) := by
      rw [show (2 * (i : Int) + 1) = ((2 * i + 1 : Nat) : Int) from by omega, ixD_l, List.getElem?_map, faces_get1]; simp [hi]
    simp [lcB, bindT, wipeE, Tg.own, op2, a0, a1, hi, dP]
  have hlen : (((faces r.shown).length : Nat) : Int) / 2 = (r.shown.length : Int) := by rw [faces_len]; omega
  rw [cfl T.h86]
  have c1 : (-1000000 : Int) < r.shown.length := by omega
  have c2 : (r.shown.length : Int) < 1000000 := by omega
  simp [f86, hw.ev, hw.toV, e82, op2, hlen, c1, c2, f1]
def lbOf (ss : List Stp) (sz : Int × Int) : LBars := lbG sz ss run0 [] (List.range ss.length)
theorem runG_ho (ss : List Stp) (hf : StpsFit ss) (sz : Int × Int) (h1 : 0 < sz.1) (h2 : 0 < sz.2) (is : List Nat) (ho : OrdOk ss is) : RI (runG sz ss run0 is) ∧ (runG sz ss run0 is).ho.length ≤ 9 := by
  obtain ⟨a, b⟩ := runG_RI (ss := ss) (sz := sz) hf.len h1 h2 is run0 run0_RI ho.lt ho.nd (fun _ _ h => nomatch h)
  refine ⟨a, ?_⟩
  have := congrArg List.length b; simp at this; have h0 : run0.ho.length = 0 := rfl
  have := ho.len; have := hf.1; omega
theorem c87z (T : TW0 tbl) (k : Nat) (ss : List Stp) (hf : StpsFit ss) (sz : Int × Int) (h1 : 0 < sz.1) (h2 : 0 < sz.2) : callF tbl (k+5) 87 [.v (dStps ss), .v (dP sz)] M = .ok (.v (dRunL (lbOf ss sz) (runOf ss sz))) M := by
  have e := (c85 (M := M) T.toTL k ss hf sz h1 h2 (List.range ss.length) (ord_range ss)).2
  rw [cfl T.h87]
  have h9 := hf.1
  have er := rng_nat ss.length (by omega)
  have eo : D.lst ((List.range ss.length).map fun (i : Nat) => .int (i : Int)) = dOrd (List.range ss.length) := rfl
  simp [f87, len_stps, er, eo, e, runOf, lbOf, -bi_rng]
theorem c87 (T : TW tbl) (k : Nat) (ss : List Stp) (hf : StpsFit ss) (sz : Int × Int) (h1 : 0 < sz.1) (h2 : 0 < sz.2) : callF tbl (k+5) 87 [.v (dStps ss), .v (dP sz)] M = .ok (.v (dRunL (lbOf ss sz) (runOf ss sz))) M := c87z T.toTW0 k ss hf sz h1 h2
end
end P
end Bf

set_option Elab.async false
set_option linter.all false
namespace Bf
namespace P
open PySem
/-! ### all sizes, in their order -/
def rowsP (m : Nat) : List (Int × Int) := (List.range m).flatMap fun (a : Nat) => (List.range m).map fun (b : Nat) => ((1 : Int) + a, (1 : Int) + b)
def mxS (m t : Int) : Int := if t - m > 1 then t - m else 1
def mnS (m t : Int) : Int := if t - 1 < m then t - 1 else m
def innerS (fs : List Fct) (m t : Int) : List (Int × Int) := ((List.range (mnS m t + 1 - mxS m t).toNat).map fun (k : Nat) => (mxS m t + k, t - (mxS m t + k))).filter (keeps fs)
def allS (fs : List Fct) (m : Nat) : List (Int × Int) := (List.range (2 * (m : Int) + 1 - 2).toNat).flatMap fun (n : Nat) => innerS fs m (2 + n)
def rowLt (a b : Int × Int) : Prop := a.1 < b.1 ∨ a.1 = b.1 ∧ a.2 < b.2
def sumLt (a b : Int × Int) : Prop := a.1 + a.2 < b.1 + b.2 ∨ a.1 + a.2 = b.1 + b.2 ∧ a.1 < b.1
def leS (a b : Int × Int) : Bool := decide (a.1 + a.2 ≤ b.1 + b.2)
theorem mem_rows {m : Nat} {p : Int × Int} : p ∈ rowsP m ↔ 1 ≤ p.1 ∧ p.1 ≤ m ∧ 1 ≤ p.2 ∧ p.2 ≤ m := by
  unfold rowsP
  rw [List.mem_flatMap]
  constructor
  · rintro ⟨a, ha, h⟩
    obtain ⟨b, hb, rfl⟩ := List.mem_map.mp h
    have := List.mem_range.mp ha; have := List.mem_range.mp hb
    simp only []; omega
  · intro h
    refine ⟨(p.1 - 1).toNat, List.mem_range.mpr (by omega), List.mem_map.mpr ⟨(p.2 - 1).toNat, List.mem_range.mpr (by omega), ?_⟩⟩
    apply Prod.ext <;> simp only [] <;> omega
theorem rows_lt (m : Nat) : (rowsP m).Pairwise rowLt := by
  unfold rowsP
  rw [List.pairwise_flatMap]
  refine ⟨?_, ?_⟩
  · intro a _
    rw [List.pairwise_map]
    refine List.pairwise_lt_range.imp ?_
    intro x y h; right; exact ⟨rfl, show (1 : Int) + x < 1 + y by omega⟩
  · refine List.pairwise_lt_range.imp ?_
    intro a b hab x hx y hy
    obtain ⟨_, _, rfl⟩ := List.mem_map.mp hx
    obtain ⟨_, _, rfl⟩ := List.mem_map.mp hy
    left; simp only []; omega
theorem mem_inner {fs : List Fct} {m t : Int} {p : Int × Int} : p ∈ innerS fs m t ↔ (mxS m t ≤ p.1 ∧ p.1 ≤ mnS m t ∧ p.2 = t - p.1) ∧ keeps fs p = true := by
  unfold innerS
  rw [List.mem_filter, List.mem_map]
  constructor
  · rintro ⟨⟨k, hk, rfl⟩, h⟩
    have := List.mem_range.mp hk
    refine ⟨?_, h⟩
    show mxS m t ≤ mxS m t + k ∧ mxS m t + k ≤ mnS m t ∧ t - (mxS m t + k) = t - (mxS m t + k)
    omega
  · rintro ⟨h1, h2⟩
    refine ⟨⟨(p.1 - mxS m t).toNat, List.mem_range.mpr (by omega), ?_⟩, h2⟩
    apply Prod.ext <;> simp only [] <;> omega
theorem mem_allS {fs : List Fct} {m : Nat} {p : Int × Int} : p ∈ allS fs m ↔ (1 ≤ p.1 ∧ p.1 ≤ m ∧ 1 ≤ p.2 ∧ p.2 ≤ m) ∧ keeps fs p = true := by
  unfold allS
  rw [List.mem_flatMap]
  constructor
  · rintro ⟨n, hn, h⟩
    have hn := List.mem_range.mp hn
    obtain ⟨h1, h2⟩ := mem_inner.mp h
    refine ⟨?_, h2⟩
    unfold mxS mnS at h1
    split at h1 <;> split at h1 <;> omega
  · rintro ⟨h1, h2⟩
    refine ⟨(p.1 + p.2 - 2).toNat, List.mem_range.mpr (by omega), mem_inner.mpr ⟨?_, h2⟩⟩
    unfold mxS mnS
    split <;> split <;> omega
theorem allS_lt (fs : List Fct) (m : Nat) : (allS fs m).Pairwise sumLt := by
  unfold allS
  rw [List.pairwise_flatMap]
  refine ⟨?_, ?_⟩
  · intro n _
    unfold innerS
    refine List.Pairwise.filter _ ?_
    rw [List.pairwise_map]
    refine List.pairwise_lt_range.imp ?_
    intro x y h; right
    show mxS m (2 + n) + x + ((2 : Int) + n - (mxS m (2 + n) + x)) = mxS m (2 + n) + y + ((2 : Int) + n - (mxS m (2 + n) + y)) ∧ mxS m (2 + n) + x < mxS m (2 + n) + y
    omega
  · refine List.pairwise_lt_range.imp ?_
    intro a b hab x hx y hy
    have h1 := (mem_inner.mp hx).1
    have h2 := (mem_inner.mp hy).1
    left; omega
theorem sort_sizes (fs : List Fct) (m : Nat) : ((rowsP m).filter (keeps fs)).mergeSort leS = allS fs m := by
  have hR : ((rowsP m).filter (keeps fs)).Pairwise rowLt := (rows_lt m).filter _
  have hmem : ∀ p, p ∈ (rowsP m).filter (keeps fs) ↔ p ∈ allS fs m := by
    intro p; rw [List.mem_filter, mem_rows, mem_allS]
  generalize ((rowsP m).filter (keeps fs)) = R at hR hmem
  have tr : ∀ a b c, leS a b = true → leS b c = true → leS a c = true := by intro a b c; simp [leS]; omega
  have tt : ∀ a b, (leS a b || leS b a) = true := by intro a b; simp [leS]; omega
  have hp := List.mergeSort_perm R leS
  have hle := List.pairwise_mergeSort tr tt R
  have hRn : R.Nodup := hR.imp (by rintro a b h rfl; unfold rowLt at h; omega)
  have hLn : (allS fs m).Nodup := (allS_lt fs m).imp (by rintro a b h rfl; unfold sumLt at h; omega)
  have hcls : ∀ s : Int, (R.mergeSort leS).filter (fun p => decide (p.1 + p.2 = s)) = R.filter (fun p => decide (p.1 + p.2 = s)) := by
    intro s
    have hsub : List.Sublist (R.filter (fun p => decide (p.1 + p.2 = s))) (R.mergeSort leS) := by
      refine List.sublist_mergeSort tr tt ?_ (List.filter_sublist)
      have : ∀ a ∈ R.filter (fun p => decide (p.1 + p.2 = s)), a.1 + a.2 = s := fun a ha => by simpa using (List.mem_filter.mp ha).2
      have hpw : (R.filter (fun p => decide (p.1 + p.2 = s))).Pairwise rowLt := hR.filter _
      refine hpw.imp_of_mem ?_
      intro a b ha hb _
      have e1 := this a ha; have e2 := this b hb
      simp only [leS, decide_eq_true_eq]; omega
    have h2 := hsub.filter (fun p => decide (p.1 + p.2 = s))
    rw [List.filter_filter] at h2
    simp only [Bool.and_self] at h2
    exact (h2.eq_of_length ((hp.filter _).length_eq.symm)).symm
  have hT : (R.mergeSort leS).Pairwise sumLt := by
    rw [List.pairwise_iff_forall_sublist]
    intro a b hab
    have h1 := (List.pairwise_iff_forall_sublist.mp hle) hab
    have h1 : a.1 + a.2 ≤ b.1 + b.2 := by simpa [leS] using h1
    by_cases he : a.1 + a.2 = b.1 + b.2
    · right; refine ⟨he, ?_⟩
      have h2 := hab.filter (fun p => decide (p.1 + p.2 = b.1 + b.2))
      rw [hcls] at h2
      have h3 : [a, b].filter (fun p => decide (p.1 + p.2 = b.1 + b.2)) = [a, b] := by simp [he]
      rw [h3] at h2
      have h4 := (List.pairwise_iff_forall_sublist.mp hR) (h2.trans List.filter_sublist)
      unfold rowLt at h4; omega
    · left; omega
  refine List.Perm.eq_of_pairwise (le := sumLt) ?_ hT (allS_lt fs m) (hp.trans ((List.perm_ext_iff_of_nodup hRn hLn).mpr hmem))
  intro a b _ _ h1 h2
  unfold sumLt at h1 h2; exfalso; omega
end P
end Bf

set_option Elab.async false
set_option linter.all false
namespace Bf
namespace P
open PySem
/-! ### sizes: the defs -/
structure TS0 (tbl : Nat → Option FD) : Prop extends TD tbl, TW tbl where
  h23 : tbl 23 = some f23
  h80 : tbl 80 = some f80
structure TS (tbl : Nat → Option FD) : Prop extends TS0 tbl where
  h26 : tbl 26 = some f26
def dSz (ss : List (Int × Int)) : D := .lst (ss.map dP)
section
variable {tbl : Nat → Option FD} {M : Mem}
theorem rows_len (m : Nat) : (rowsP m).length = m * m := by
  unfold rowsP
  have : ∀ n : Nat, ((List.range n).flatMap fun (a : Nat) => (List.range m).map fun (b : Nat) => ((1 : Int) + a, (1 : Int) + b)).length = n * m := by
    intro n
    induction n with
    | zero => simp
    | succ n ih => rw [List.range_succ, List.flatMap_append, List.length_append, ih]; simp [Nat.succ_mul]
  exact this m
theorem psum (p : Int × Int) : pairSum (dP p) = some (p.1 + p.2) := rfl
theorem bi_ssum (xs : List (Int × Int)) : bi .sortSum [.lst (xs.map dP)] = some (.lst ((xs.mergeSort leS).map dP)) := by
  have h : ((xs.map dP).all fun x => (pairSum x).isSome) = true := by
    rw [List.all_map, List.all_eq_true]; intro x _; rfl
  show (if ((xs.map dP).all fun x => (pairSum x).isSome) = true then some (D.lst ((xs.map dP).mergeSort fun a b => decide ((pairSum a).getD 0 ≤ (pairSum b).getD 0))) else none) = _
  rw [if_pos h, List.map_mergeSort (s := fun a b => decide ((pairSum a).getD 0 ≤ (pairSum b).getD 0))]
  intro a _ b _; rfl
theorem c23 (T : TD tbl) (h23 : tbl 23 = some f23) (k : Nat) (ss : List Stp) (fs : List Fct) (hf : ∀ f ∈ fs, fctOk f) (m : Nat) (hm : m ≤ 1000) : callF tbl (k+3) 23 [.v (dPlan ss fs), .v (.int m)] M = .ok (.v (dSz (allS fs m))) M := by
  have hmm : m * m ≤ 1000000 := Nat.mul_le_mul hm hm
  have f1 : ∀ x2 x3 x4 x5, lc2S (callF tbl (k+2)) (.tup (.cons (.var 3) (.cons (.var 4) .nil))) (.v 3) (.v 4) (.r2 (.lit (.int 1)) (.b2 .add (.var 1) (.lit (.int 1)))) ((List.range m).map fun (n : Nat) => .int (1 + (n : Int))) [some (.v (dPlan ss fs)), some (.v (.int m)), x2, x3, x4, x5] M = .ok (.n ((rowsP m).map dP)) M := by
    intro x2 x3 x4 x5
    rw [lc2S, catL_ok (g := fun d => match d with
      | .int x => (List.range m).map fun (b : Nat) => dP (x, 1 + (b : Int))
      | _ => [])]
    · have e : ((List.range m).map fun (n : Nat) => D.int (1 + (n : Int))).flatMap (fun d => match d with
        | .int x => (List.range m).map fun (b : Nat) => dP (x, 1 + (b : Int))
        | _ => []) = (rowsP m).map dP := by
        rw [List.flatMap_map, rowsP, List.map_flatMap]
        congr 1; funext a; rw [List.map_map]; rfl
      rw [e, bo, List.length_map, rows_len, if_pos (by show m * m ≤ 16777216; omega)]
    · intro x hx
      obtain ⟨n, _, rfl⟩ := List.mem_map.mp hx
      have c1 : (-1000000 : Int) < (m : Int) + 1 := by omega
      have c2 : (m : Int) + 1 < 1000000 := by omega
      have c3 : ((m : Int) + 1 - 1).toNat = m := by omega
      simp [bindT, wipeE, Tg.own, op2, c1, c2, c3]
      rw [mapL_some (g := fun y => .tup [.int (1 + (n : Int)), y]) _ (fun _ _ => rfl), List.map_map]; rfl
  have f2 : ∀ x2 x3 x4 x5, lcS (callF tbl (k+2)) (.var 5) (.v 5) (.so (.call 8 (.cons (.fld (.var 0) .ofacts) (.cons (.var 5) .nil)))) ((rowsP m).map dP) [some (.v (dPlan ss fs)), some (.v (.int m)), x2, x3, x4, x5] M = .ok (.n (((rowsP m).filter (keeps fs)).map dP)) M := by
    intro x2 x3 x4 x5
    refine lcS_flt dP (keeps fs) dP _ ?_ (by rw [rows_len]; show m * m ≤ 16777216; omega)
    intro p _
    have e8 := c8 (M := M) T k fs hf p
    cases hk : keeps fs p <;> simp [lcB, bindT, wipeE, Tg.own, fld_ofacts, e8, hk]
  rw [cfl h23]
  have c1 : (-1000000 : Int) < (m : Int) + 1 := by omega
  have c2 : (m : Int) + 1 < 1000000 := by omega
  have c3 : ((m : Int) + 1 - 1).toNat = m := by omega
  simp [f23, op2, c1, c2, c3, f1, f2, bi_ssum, sort_sizes, dSz]
theorem c26 (h26 : tbl 26 = some f26) (k n : Nat) : callF tbl (k+1) 26 [.v (.int n)] M = .ok (.v (.int ((4 * max 1 n : Nat) : Int))) M := by
  rw [cfl h26]
  have : (4 : Int) * (if (n : Int) > 1 then (n : Int) else 1) = ((4 * max 1 n : Nat) : Int) := by split <;> omega
  simp at this
  simp [f26, op2, this]
theorem b79 (T : TL tbl) (k n0 : Nat) (s : Int × Int) (F : D) (f : Fct) (hf : fctOk f) (x5 : Option W) :
    ∃ y5, evSs (callF tbl (k+1)) n0 f79_b0 [some (.v F), some (.v (dP s)), some (.v (sW f.less "less" "same")), some (.v (dP f.one)), some (.v (dP f.other)), x5] M = if keepsF f s = true then .nx [some (.v F), some (.v (dP s)), some (.v (sW f.less "less" "same")), some (.v (dP f.one)), some (.v (dP f.other)), y5] M else .rt (.v (.bl false)) M := by
  have e1 : ∀ N, callF tbl (k+1) 78 [.v (dP f.one), .v (dP s)] N = _ := fun N => c78 T k (s := s) hf.1
  have e2 : ∀ N, callF tbl (k+1) 78 [.v (dP f.other), .v (dP s)] N = _ := fun N => c78 T k (s := s) hf.2
  rcases f with ⟨b, l, m⟩
  simp only [] at e1 e2
  refine ⟨some (.v (.int (long m s - long l s))), ?_⟩
  generalize hl : long l s = p at e1 ⊢
  generalize hm : long m s = q at e2 ⊢
  rcases Int.lt_trichotomy p q with h | h | h
  · have a1 : ¬ q - p < 0 := by omega
    have a2 : (q - p == 0) = false := by simp; omega
    have a3 : ¬ p = q := by omega
    generalize hd : q - p = d at a1 a2 ⊢
    cases b <;> simp [f79_b0, e1, e2, op2, sW, keepsF, h, hl, hm, a1, a2, a3, hd]
  · subst h
    cases b <;> simp [f79_b0, e1, e2, op2, sW, keepsF, hl, hm]
  · have a1 : q - p < 0 := by omega
    have a3 : ¬ p = q := by omega
    have a4 : ¬ p < q := by omega
    generalize hd : q - p = d at a1 ⊢
    cases b <;> simp [f79_b0, e1, e2, op2, sW, keepsF, h, hl, hm, a1, a3, a4, hd]
theorem l79 (T : TL tbl) (k n0 : Nat) (s : Int × Int) (F : D) : ∀ (fs : List Fct) (hf : ∀ f ∈ fs, fctOk f) (x2 x3 x4 x5 : Option W), ∃ y2 y3 y4 y5 : Option W,
    loopS (callF tbl (k+1)) n0 (.t [2,3,4]) f79_b0 (fs.map dFct) [some (.v F), some (.v (dP s)), x2, x3, x4, x5] M = if keeps fs s = true then .nx [some (.v F), some (.v (dP s)), y2, y3, y4, y5] M else .rt (.v (.bl false)) M
  | [], _, x2, x3, x4, x5 => ⟨x2, x3, x4, x5, rfl⟩
  | f :: fs, hf, x2, x3, x4, x5 => by
    obtain ⟨z5, hb⟩ := b79 (M := M) T k n0 s F f (hf f (by simp)) x5
    obtain ⟨y2, y3, y4, y5, ih⟩ := l79 T k n0 s F fs (fun g hg => hf g (by simp [hg])) (some (.v (sW f.less "less" "same"))) (some (.v (dP f.one))) (some (.v (dP f.other))) z5
    refine ⟨y2, y3, y4, y5, ?_⟩
    have k1 : keeps (f :: fs) s = (keepsF f s && keeps fs s) := rfl
    rw [List.map_cons, k1]
    cases hk : keepsF f s with
    | true => rw [hk] at hb; rw [loopS_nx (v2 := _) (by rfl) hb, ih]; simp
    | false => rw [hk] at hb; rw [loopS_rt (v2 := _) (by rfl) hb]; simp
theorem c79 (T : TL tbl) (k : Nat) (fs : List Fct) (hf : ∀ f ∈ fs, fctOk f) (s : Int × Int) : callF tbl (k+2) 79 [.v (dFcts fs), .v (dP s)] M = .ok (.v (.bl (keeps fs s))) M := by
  obtain ⟨y2, y3, y4, y5, ih⟩ := l79 (M := M) T k M.length s (dFcts fs) fs hf none none none none
  rw [cfl T.h79]
  have e : items (dFcts fs) = some (fs.map dFct) := rfl
  cases h : keeps fs s <;> simp [f79, e, ih, h]
theorem b80a (T : TL tbl) (k n0 : Nat) (fs : List Fct) (hf : ∀ f ∈ fs, fctOk f) (m t o : Int) (acc : List (Int × Int)) (ha : acc.length < 1100000) :
    evSs (callF tbl (k+2)) n0 f80_b0 [some (.v (dFcts fs)), some (.v (.int m)), some (.c M.length), some (.v (.int t)), some (.v (.int o))] (M ++ [.lst (acc.map dP)]) = .nx [some (.v (dFcts fs)), some (.v (.int m)), some (.c M.length), some (.v (.int t)), some (.v (.int o))] (M ++ [.lst ((acc ++ [(o, t - o)].filter (keeps fs)).map dP)]) := by
  have e8 : ∀ N, callF tbl (k+2) 79 [.v (dFcts fs), .v (.tup [.int o, .int (t - o)])] N = .ok (.v (.bl (keeps fs (o, t - o)))) N := fun N => c79 T k fs hf (o, t - o)
  have h2 : acc.length < 16777216 := by omega
  have e : dP (o, t - o) = .tup [.int o, .int (t - o)] := rfl
  cases hk : keeps fs (o, t - o) <;> simp [f80_b0, op2, e8, hk, h2, e]
theorem l80a (T : TL tbl) (k n0 : Nat) (fs : List Fct) (hf : ∀ f ∈ fs, fctOk f) (m t : Int) : ∀ (os : List Int) (acc : List (Int × Int)), acc.length + os.length < 1100000 → ∀ x4 : Option W, ∃ y4 : Option W,
    loopS (callF tbl (k+2)) n0 (.v 4) f80_b0 (os.map .int) [some (.v (dFcts fs)), some (.v (.int m)), some (.c M.length), some (.v (.int t)), x4] (M ++ [.lst (acc.map dP)]) = .nx [some (.v (dFcts fs)), some (.v (.int m)), some (.c M.length), some (.v (.int t)), y4] (M ++ [.lst ((acc ++ (os.map fun o => (o, t - o)).filter (keeps fs)).map dP)])
  | [], acc, _, x4 => ⟨x4, by simp [loopS_nil]⟩
  | o :: os, acc, hl, x4 => by
    rw [List.length_cons] at hl
    have hb := b80a (M := M) T k n0 fs hf m t o acc (by omega)
    have h1 : ([(o, t - o)].filter (keeps fs)).length ≤ 1 := List.length_filter_le _ _
    obtain ⟨y4, ih⟩ := l80a T k n0 fs hf m t os (acc ++ [(o, t - o)].filter (keeps fs)) (by rw [List.length_append]; omega) (some (.v (.int o)))
    refine ⟨y4, ?_⟩
    rw [List.map_cons, loopS_nx (v2 := _) (by rfl) hb, ih, List.append_assoc, ← List.filter_append]
    rfl
end
end P
end Bf

set_option Elab.async false
set_option linter.all false
namespace Bf
namespace P
open PySem
/-! ### the law's list of sizes -/
section
variable {tbl : Nat → Option FD} {M : Mem}
@[simp] theorem bi_max2l (a b : Int) : bi .max [.lst [.int a, .int b]] = some (.int (if b > a then b else a)) := (rfl)
@[simp] theorem bi_min2l (a b : Int) : bi .min [.lst [.int a, .int b]] = some (.int (if b < a then b else a)) := (rfl)
@[simp] theorem ownc (xs : List D) : outR M.length (.rt (.c M.length) (M ++ [.lst xs])) = .ok (.v (.lst xs)) M := by simp [outR, outW, plainC]
theorem inner_len (fs : List Fct) (m : Nat) (t : Int) : (innerS fs m t).length ≤ m := by
  unfold innerS
  refine Nat.le_trans (List.length_filter_le _ _) ?_
  rw [List.length_map, List.length_range]
  unfold mxS mnS; split <;> split <;> omega
theorem b80b (T : TL tbl) (k n0 : Nat) (fs : List Fct) (hf : ∀ f ∈ fs, fctOk f) (m : Nat) (hm : m ≤ 500) (t : Int) (ht : 2 ≤ t ∧ t ≤ 2 * m) (acc : List (Int × Int)) (ha : acc.length ≤ 1000000) (x4 : Option W) : ∃ y4 : Option W,
    evSs (callF tbl (k+2)) n0 f80_b1 [some (.v (dFcts fs)), some (.v (.int m)), some (.c M.length), some (.v (.int t)), x4] (M ++ [.lst (acc.map dP)]) = .nx [some (.v (dFcts fs)), some (.v (.int m)), some (.c M.length), some (.v (.int t)), y4] (M ++ [.lst ((acc ++ innerS fs m t).map dP)]) := by
  have hl : ((List.range (mnS m t + 1 - mxS m t).toNat).map fun (k : Nat) => mxS m t + (k : Int)).length ≤ m := by
    rw [List.length_map, List.length_range]; unfold mxS mnS; split <;> split <;> omega
  obtain ⟨y4, ih⟩ := l80a (M := M) T k n0 fs hf m t ((List.range (mnS m t + 1 - mxS m t).toNat).map fun (k : Nat) => mxS m t + (k : Int)) acc (by omega) x4
  have e : (((List.range (mnS m t + 1 - mxS m t).toNat).map fun (k : Nat) => mxS m t + (k : Int)).map fun o => (o, t - o)).filter (keeps fs) = innerS fs m t := by
    rw [List.map_map]; rfl
  rw [e, List.map_map] at ih
  refine ⟨y4, ?_⟩
  have hx : (if (1 : Int) < t - m then t - m else 1) = mxS m t := rfl
  have hn : (if t - 1 < (m : Int) then t - 1 else m) = mnS m t := rfl
  have c1 : -1000000 < mxS m t := by unfold mxS; split <;> omega
  have c2 : mxS m t < 1000000 := by unfold mxS; split <;> omega
  have c3 : -1000000 < mnS m t + 1 := by unfold mnS; split <;> omega
  have c4 : mnS m t + 1 < 1000000 := by unfold mnS; split <;> omega
  have ih : loopS (callF tbl (k+2)) n0 (.v 4) f80_b0 ((List.range (mnS m t + 1 - mxS m t).toNat).map fun (n : Nat) => .int (mxS m t + (n : Int))) [some (.v (dFcts fs)), some (.v (.int m)), some (.c M.length), some (.v (.int t)), x4] (M ++ [.lst (acc.map dP)]) = _ := ih
  simp [f80_b1, op2, hx, hn, c1, c2, c3, c4, ih]
theorem l80 (T : TL tbl) (k n0 : Nat) (fs : List Fct) (hf : ∀ f ∈ fs, fctOk f) (m : Nat) (hm : m ≤ 500) : ∀ (ts : List Int), (∀ t ∈ ts, 2 ≤ t ∧ t ≤ 2 * m) → ∀ (acc : List (Int × Int)), acc.length + ts.length * m ≤ 1000000 → ∀ x3 x4 : Option W, ∃ y3 y4 : Option W,
    loopS (callF tbl (k+2)) n0 (.v 3) f80_b1 (ts.map .int) [some (.v (dFcts fs)), some (.v (.int m)), some (.c M.length), x3, x4] (M ++ [.lst (acc.map dP)]) = .nx [some (.v (dFcts fs)), some (.v (.int m)), some (.c M.length), y3, y4] (M ++ [.lst ((acc ++ ts.flatMap (innerS fs m)).map dP)])
  | [], _, acc, _, x3, x4 => ⟨x3, x4, by simp [loopS_nil]⟩
  | t :: ts, h, acc, ha, x3, x4 => by
    rw [List.length_cons, Nat.succ_mul] at ha
    obtain ⟨y4, hb⟩ := b80b (M := M) T k n0 fs hf m hm t (h t (by simp)) acc (by omega) x4
    have := inner_len fs m t
    obtain ⟨z3, z4, ih⟩ := l80 T k n0 fs hf m hm ts (fun u hu => h u (by simp [hu])) (acc ++ innerS fs m t) (by rw [List.length_append]; omega) (some (.v (.int t))) y4
    refine ⟨z3, z4, ?_⟩
    rw [List.map_cons, loopS_nx (v2 := _) (by rfl) hb, ih, List.flatMap_cons, List.append_assoc]
theorem c80 (T : TL tbl) (h80 : tbl 80 = some f80) (k : Nat) (fs : List Fct) (hf : ∀ f ∈ fs, fctOk f) (m : Nat) (hm : m ≤ 500) : callF tbl (k+3) 80 [.v (dFcts fs), .v (.int m)] M = .ok (.v (dSz (allS fs m))) M := by
  have hts : ∀ t ∈ ((List.range (2 * (m : Int) + 1 - 2).toNat).map fun (n : Nat) => (2 : Int) + n), 2 ≤ t ∧ t ≤ 2 * m := by
    intro t ht; obtain ⟨n, hn, rfl⟩ := List.mem_map.mp ht
    have := List.mem_range.mp hn; omega
  have hln : ((List.range (2 * (m : Int) + 1 - 2).toNat).map fun (n : Nat) => (2 : Int) + n).length * m ≤ 1000000 := by
    rw [List.length_map, List.length_range]
    exact Nat.le_trans (Nat.mul_le_mul (show _ ≤ 1000 by omega) hm) (by decide)
  obtain ⟨y3, y4, ih⟩ := l80 (M := M) T k M.length fs hf m hm _ hts [] (by simpa using hln) none none
  have e : ((List.range (2 * (m : Int) + 1 - 2).toNat).map fun (n : Nat) => (2 : Int) + n).flatMap (innerS fs m) = allS fs m := by
    rw [List.flatMap_map]; rfl
  rw [e, List.map_map, List.map_nil, List.nil_append] at ih
  have ih : loopS (callF tbl (k+2)) M.length (.v 3) f80_b1 ((List.range (2 * (m : Int) + 1 - 2).toNat).map fun (n : Nat) => .int ((2 : Int) + (n : Int))) [some (.v (dFcts fs)), some (.v (.int m)), some (.c M.length), none, none] (M ++ [.lst []]) = _ := ih
  have c1 : (-1000000 : Int) < 2 * (m : Int) + 1 := by omega
  have c2 : 2 * (m : Int) + 1 < 1000000 := by omega
  rw [cfl h80]
  simp [f80, op2, c1, c2, ih, dSz]
end
end P
end Bf

set_option Elab.async false
set_option linter.all false
namespace Bf
namespace P
open PySem
/-! ### plans that are right -/
structure TP (tbl : Nat → Option FD) : Prop where
  h0 : tbl 0 = some f0
  h1 : tbl 1 = some f1
  h2 : tbl 2 = some f2
  h3 : tbl 3 = some f3
  h4 : tbl 4 = some f4
  h5 : tbl 5 = some f5
  h6 : tbl 6 = some f6
section
variable {tbl : Nat → Option FD} {M : Mem}
theorem c0 (T : TP tbl) (k : Nat) (v a b : Int) : callF tbl (k+1) 0 [.v (.int v), .v (.int a), .v (.int b)] M = .ok (.v (.bl (decide (a ≤ v ∧ v ≤ b)))) M := by
  rw [cfl T.h0]
  by_cases h1 : a ≤ v <;> by_cases h2 : v ≤ b <;> simp [f0, op2, h1, h2]
theorem inB_two {s a b : PySem.Str} (hs : PyData.strOk s = true) (ha : PyData.strOk a = true) (hb : PyData.strOk b = true) : inB (.str s) (.tup [.str a, .str b]) = some (a == s || b == s) := by
  have e1 : fits 20 (.str s) = true := hs
  have e2 : fits 20 (.lst [.str a, .str b]) = true := by simp [fits, ha, hb]
  simp only [inB, e1, e2, Bool.and_self, if_true, List.any_cons, List.any_nil, eqB_str, Bool.or_false]
theorem c1 (T : TP tbl) (k : Nat) {s a b : PySem.Str} (hs : PyData.strOk s = true) (ha : PyData.strOk a = true) (hb : PyData.strOk b = true) : callF tbl (k+1) 1 [.v (.str s), .v (.tup [.str a, .str b])] M = .ok (.v (.bl (a == s || b == s))) M := by
  rw [cfl T.h1]
  simp [f1, op2, inB_two hs ha hb]
theorem strOkT : PyData.strOk ("add" : PySem.Str) = true ∧ PyData.strOk ("cut" : PySem.Str) = true ∧ PyData.strOk ("less" : PySem.Str) = true ∧ PyData.strOk ("same" : PySem.Str) = true := by decide +kernel
theorem eqD_00 (l : Int × Int) : eqD (dP l) (.tup [.int 0, .int 0]) = some (decide (l.1 = 0 ∧ l.2 = 0)) := by
  have h : fits 20 (dP l) = true := fits_dP 19 l
  have h2 : fits 20 (dP (0, 0)) = true := fits_dP 19 _
  have : eqD (dP l) (.tup [.int 0, .int 0]) = if (fits 20 (dP l) && fits 20 (dP (0, 0))) = true then some (eqB (dP l) (.tup [.int 0, .int 0])) else none := rfl
  rw [this, h, h2]
  simp [dP, eqB, eqBs]; rfl
theorem c2 (T : TP tbl) (k : Nat) {l : Int × Int} (hl : lenOk l) : callF tbl (k+2) 2 [.v (dP l)] M = .ok (.v (.bl true)) M := by
  have f1 : ∀ x1, lcS (callF tbl (k+1)) (.call 0 (.cons (.var 1) (.cons (.lit (.int 0)) (.cons (.glo "MOST_OF_SIZE" (.int 2)) .nil)))) (.v 1) .no ([l.1, l.2].map .int) [some (.v (dP l)), x1] M = .ok (.n ([l.1, l.2].map fun _ => .bl true)) M := by
    intro x1
    refine lcS_map D.int _ _ ?_ (by simp)
    intro x hx
    have : 0 ≤ x ∧ x ≤ 2 := by
      obtain ⟨a1, a2, a3, a4, _⟩ := hl
      simp at hx; rcases hx with rfl | rfl <;> omega
    simp [lcB, bindT, wipeE, Tg.own, c0 T k, this]
  have e2 : items (dP l) = some ([l.1, l.2].map .int) := rfl
  have e3 := eqD_00 l
  have e4 : decide (l.1 = 0 ∧ l.2 = 0) = false := by simp only [decide_eq_false_iff_not]; exact hl.2.2.2.2
  rw [e4] at e3
  rw [cfl T.h2]
  have t1 : tyD (dP l) = true := rfl
  have t2 : isTy .tuple (dP l) = true := rfl
  have t3 : lenD (dP l) = some 2 := rfl
  have t4 : allBl [D.bl true, .bl true] = some [true, true] := rfl
  simp only [List.map_cons, List.map_nil] at f1 e2
  simp [f2, op2, t1, t2, t3, e2, f1, e3, t4]
theorem eqD_tn (x : D) (xs : List D) (h : fits 20 (.tup (x :: xs)) = true) : eqD (.tup (x :: xs)) (.tup []) = some false := by
  have h2 : fits 20 (.tup []) = true := rfl
  have : eqD (.tup (x :: xs)) (.tup []) = if (fits 20 (.tup (x :: xs)) && fits 20 (.tup [])) = true then some (eqB (.tup (x :: xs)) (.tup [])) else none := rfl
  rw [this, h, h2]; simp [eqB, eqBs]
theorem sl1 (x : D) (xs : List D) : cutD (x :: xs) (some 1) none = xs := by
  have h1 : HT.sIx (x :: xs).length 0 (some 1) = 1 := by simp [HT.sIx]
  have h2 : HT.sIx (x :: xs).length (x :: xs).length none = xs.length + 1 := by simp [HT.sIx]
  rw [cutD, h1, h2]; simp
theorem c3 (T : TP tbl) (k i : Nat) (m : Nm) (h : nmOk i m) : callF tbl (k+2) 3 [.v (dNm m), .v (.int i)] M = .ok (.v (.bl true)) M := by
  obtain ⟨h1, h2, h3, h4, h5, h6, h7, h8⟩ := strOkS
  have hf := fits_nm 19 m
  have e0 : ∀ xs, dNm m = .tup xs → xs ≠ [] := by cases m <;> simp [dNm]
  rw [cfl T.h3]
  cases m with
  | start =>
    have e1 := eqD_tn (.str "start") [] hf
    have e2 : eqD (.tup []) (.tup []) = some true := rfl
    simp [f3, dNm, op2, e1, e2, idxD, L2.atI, L2.ixN, sliceD, sl1]
  | count l n =>
    have e1 := eqD_tn (.str "count") [sW l "left" "right", .int n] hf
    have hn : (n : Int) ≤ 3 := by have : n ≤ 3 := h; omega
    cases l with
    | true =>
      have e2 := c1 (M := M) T k (s := "left") (a := "left") (b := "right") h5 h5 h6
      simp only [sW] at e1
      simp at e1
      simp [f3, dNm, op2, e1, sliceD, sl1, sW, e2, c0 T k, hn]
    | false =>
      have e2 := c1 (M := M) T k (s := "right") (a := "left") (b := "right") h6 h5 h6
      simp only [sW] at e1
      simp at e1
      simp [f3, dNm, op2, e1, sliceD, sl1, sW, e2, c0 T k, hn]
  | ende j n =>
    have e1 := eqD_tn (.str "end") [.int j, sW n "near" "far"] hf
    have hj : (j : Int) ≤ (i : Int) - 1 := by have : j < i := h; omega
    cases n with
    | true =>
      have e2 := c1 (M := M) T k (s := "near") (a := "near") (b := "far") h7 h7 h8
      simp only [sW] at e1
      simp at e1
      simp [f3, dNm, op2, e1, sliceD, sl1, sW, e2, c0 T k, hj]
    | false =>
      have e2 := c1 (M := M) T k (s := "far") (a := "near") (b := "far") h8 h7 h8
      simp only [sW] at e1
      simp at e1
      simp [f3, dNm, op2, e1, sliceD, sl1, sW, e2, c0 T k, hj]
  | beside j l =>
    have e1 := eqD_tn (.str "beside") [.int j, sW l "left" "right"] hf
    have hj : (j : Int) ≤ (i : Int) - 1 := by have : j < i := h; omega
    cases l with
    | true =>
      have e2 := c1 (M := M) T k (s := "left") (a := "left") (b := "right") h5 h5 h6
      simp only [sW] at e1
      simp at e1
      simp [f3, dNm, op2, e1, sliceD, sl1, sW, e2, c0 T k, hj]
    | false =>
      have e2 := c1 (M := M) T k (s := "right") (a := "left") (b := "right") h6 h5 h6
      simp only [sW] at e1
      simp at e1
      simp [f3, dNm, op2, e1, sliceD, sl1, sW, e2, c0 T k, hj]
theorem c1b (T : TP tbl) (k : Nat) (x : Bool) {s t a b : PySem.Str} (hs : PyData.strOk a = true) (hb : PyData.strOk b = true) (h : (s = a ∧ t = b) ∨ (s = b ∧ t = a)) : callF tbl (k+1) 1 [.v (sW x s t), .v (.tup [.str a, .str b])] M = .ok (.v (.bl true)) M := by
  rcases h with ⟨rfl, rfl⟩ | ⟨rfl, rfl⟩ <;> cases x <;> simp [sW, c1 T k, hs, hb]
theorem c4 (T : TP tbl) (k i : Nat) (s : Stp) (h : stpOk i s) : callF tbl (k+3) 4 [.v (dStp s), .v (.int i)] M = .ok (.v (.bl true)) M := by
  obtain ⟨h1, h2, h3, h4, h5, h6, h7, h8⟩ := strOkS
  obtain ⟨g1, g2, g3, g4⟩ := strOkT
  have e1 := c1b (M := M) T (k+1) s.add (s := "add") (t := "cut") g1 g2 (.inl ⟨rfl, rfl⟩)
  have e2 := c1b (M := M) T (k+1) s.right (s := "right") (t := "left") h5 h6 (.inr ⟨rfl, rfl⟩)
  have e3 := c3 (M := M) T k i s.nm h.1
  have e4 := c2 (M := M) T k h.2
  have i3 : ∀ a b c d : D, idxD (.tup [a, b, c, d]) (.int 3) = some d := fun _ _ _ _ => rfl
  have i2 : ∀ a b c d : D, idxD (.tup [a, b, c, d]) (.int 2) = some c := fun _ _ _ _ => rfl
  have i1 : ∀ a b c d : D, idxD (.tup [a, b, c, d]) (.int 1) = some b := fun _ _ _ _ => rfl
  have i0 : ∀ a b c d : D, idxD (.tup [a, b, c, d]) (.int 0) = some a := fun _ _ _ _ => rfl
  rw [cfl T.h4]
  simp [f4, dStp, op2, i0, i1, i2, i3, e1, e2, e3, e4]
theorem c5 (T : TP tbl) (k : Nat) (f : Fct) (h : fctOk f) : callF tbl (k+3) 5 [.v (dFct f)] M = .ok (.v (.bl true)) M := by
  obtain ⟨g1, g2, g3, g4⟩ := strOkT
  have e1 := c1b (M := M) T (k+1) f.less (s := "less") (t := "same") g3 g4 (.inl ⟨rfl, rfl⟩)
  have e2 := c2 (M := M) T k h.1
  have e3 := c2 (M := M) T k h.2
  rw [cfl T.h5]
  simp [f5, dFct, op2, e1, e2, e3]
theorem l6 (T : TP tbl) (k n0 : Nat) (w : W) (P F : D) (x5 : Option W) : ∀ (ss : List Stp) (j : Nat), (∀ i (s : Stp), ss[i]? = some s → stpOk (j + i) s) → ∀ x3 x4 : Option W, ∃ y3 y4 : Option W,
    loopS (callF tbl (k+3)) n0 (.t [3, 4]) f6_b0 (enumD j (ss.map dStp)) [some w, some (.v P), some (.v F), x3, x4, x5] M = .nx [some w, some (.v P), some (.v F), y3, y4, x5] M
  | [], j, _, x3, x4 => ⟨x3, x4, rfl⟩
  | s :: ss, j, h, x3, x4 => by
    have hs : stpOk j s := h 0 s rfl
    have hb : evSs (callF tbl (k+3)) n0 f6_b0 [some w, some (.v P), some (.v F), some (.v (.int j)), some (.v (dStp s)), x5] M = .nx [some w, some (.v P), some (.v F), some (.v (.int j)), some (.v (dStp s)), x5] M := by
      simp [f6_b0, c4 T k j s hs]
    obtain ⟨y3, y4, ih⟩ := l6 T k n0 w P F x5 ss (j + 1) (by
      intro i s' hi
      have := h (i + 1) s' (by simpa using hi)
      rw [show j + 1 + i = j + (i + 1) from by omega]; exact this) (some (.v (.int j))) (some (.v (dStp s)))
    refine ⟨y3, y4, ?_⟩
    rw [List.map_cons, enumD, loopS_nx (v2 := _) (by rfl) hb, ih]
theorem allBl_true {α : Type} (xs : List α) : allBl (xs.map fun _ => D.bl true) = some (xs.map fun _ => true) := by
  have := allBl_map (xs.map fun _ => true); rw [List.map_map] at this; exact this
theorem c6 (T : TP tbl) (k : Nat) (ss : List Stp) (hs : stpsOk ss) (fs : List Fct) (hf : fctsOk fs) :
    callF tbl (k+4) 6 [.c M.length, .v (dStps ss), .v (dFcts fs)] (M ++ [.ins 10 [] []]) = .ok (.v .non) (M ++ [dPlan ss fs]) := by
  obtain ⟨y3, y4, ih⟩ := l6 (M := M ++ [.ins 10 [] []]) T k M.length (.c M.length) (dStps ss) (dFcts fs) none ss 0 (by intro i s h; rw [Nat.zero_add]; exact hs.2 i s h) none none
  have f1 : ∀ x3 x4 x5 N, lcS (callF tbl (k+3)) (.call 5 (.cons (.var 5) .nil)) (.v 5) .no (fs.map dFct) [some (.c M.length), some (.v (dStps ss)), some (.v (dFcts fs)), x3, x4, x5] N = .ok (.n (fs.map fun _ => .bl true)) N := by
    intro x3 x4 x5 N
    refine lcS_map dFct _ _ ?_ (by have := hf.1; simp; omega)
    intro f hm
    simp [lcB, bindT, wipeE, Tg.own, c5 T k f (hf.2 f hm)]
  have t1 : tyD (dStps ss) = true := rfl
  have t2 : isTy .tuple (dStps ss) = true := rfl
  have t3 : lenD (dStps ss) = some ss.length := len_stps ss
  have t4 : tyD (dFcts fs) = true := rfl
  have t5 : isTy .tuple (dFcts fs) = true := rfl
  have t6 : lenD (dFcts fs) = some fs.length := by simp [dFcts]
  have t7 : items (dFcts fs) = some (fs.map dFct) := rfl
  have q1 : ¬ (5 : Int) < ss.length := by have := hs.1; omega
  have q2 : ¬ (2 : Int) < fs.length := by have := hf.1; omega
  have v1 : evIt (callF tbl (k+3)) (.enum (.var 1)) [some (.c M.length), some (.v (dStps ss)), some (.v (dFcts fs)), none, none, none] (M ++ [.ins 10 [] []]) = .ok (false, enumD 0 (ss.map dStp)) (M ++ [.ins 10 [] []]) := by
    simp [dStps]
  have p1 : fputM (.c M.length) .osteps (dStps ss) (M ++ [.ins 10 [] []]) = some (M ++ [.ins 10 [.osteps] [dStps ss]]) := by simp [fputM, okF, put]
  have p2 : fputM (.c M.length) .ofacts (dFcts fs) (M ++ [.ins 10 [.osteps] [dStps ss]]) = some (M ++ [dPlan ss fs]) := by simp [fputM, okF, put, dPlan]
  have tk1 : (M ++ [dPlan ss fs]).take (M.length + 1) = M ++ [dPlan ss fs] := List.take_of_length_le (by simp)
  have t8 : (fs.all fun _ => true) = true := by simp
  rw [cfl T.h6]
  simp [f6, op2, t1, t2, t3, t4, t5, t6, t7, q1, q2, v1, ih, f1, allBl_true, p1, p2, owned, tk1, t8, -x_evIt4]
theorem madeP (ss : List Stp) (fs : List Fct) : madeV M.length (.ok (.v .non) (M ++ [dPlan ss fs])) = .ok (.v (dPlan ss fs)) M := by simp [madeV, dPlan]
end
end P
end Bf

set_option Elab.async false
set_option linter.all false
namespace Bf
namespace P
open PySem
/-! ### the law's draws -/
structure TR (tbl : Nat → Option FD) : Prop where
  h70 : tbl 70 = some f70
  h71 : tbl 71 = some f71
  h72 : tbl 72 = some f72
  h74 : tbl 74 = some f74
  h75 : tbl 75 = some f75
  h76 : tbl 76 = some f76
  h77 : tbl 77 = some f77
/-- a state of the draws -/
def Good (d : D) : Prop := ∃ (a b : Int) (rest : List Int), d = .lst (.int a :: .int b :: rest.map .int) ∧ rest.length ≤ 1000
section
variable {tbl : Nat → Option FD} {M : Mem}
@[simp] theorem tk0 (d : D) : (d :: M).take (M.length + 1) = d :: M := List.take_of_length_le (by simp)
@[simp] theorem putDl (xs : List D) (i : Int) (y : D) : putD (.lst xs) (.int i) y = (L2.ixN xs.length i).map fun j => .lst (xs.set j y) := (rfl)
theorem c71 (T : TR tbl) (k : Nat) (n : Int) (h0 : 0 < n) (hn : n < 1073741824) {d : D} (hd : Good d) : ∃ (r : Int) (d' : D), 0 ≤ r ∧ r < n ∧ Good d' ∧ ∀ M, callF tbl (k+1) 71 [.c 0, .v (.int n)] (d :: M) = .ok (.v (.int r)) (d' :: M) := by
  obtain ⟨a, b, rest, rfl, hr⟩ := hd
  have ix0 : ∀ (x y : D) (zs : List D), idxD (.lst (x :: y :: zs)) (.int 0) = some x := fun x y zs => ixD_l (x :: y :: zs) 0
  have ix1 : ∀ (x y : D) (zs : List D), idxD (.lst (x :: y :: zs)) (.int 1) = some y := fun x y zs => ixD_l (x :: y :: zs) 1
  have iN0 : ∀ m : Nat, L2.ixN (m + 1 + 1) 0 = some 0 := by intro m; unfold L2.ixN; rw [if_pos (by omega), if_pos (by omega)]; rfl
  have iN1 : ∀ m : Nat, L2.ixN (m + 1 + 1) 1 = some 1 := by intro m; unfold L2.ixN; rw [if_pos (by omega), if_pos (by omega)]; rfl
  by_cases hb : b = 0
  · subst hb
    cases rest with
    | nil =>
      refine ⟨((a * 48271 + 11) % 2147483647 / 64) % n, .lst (.int ((a * 48271 + 11) % 2147483647) :: .int 0 :: [].map .int), Int.emod_nonneg _ (by omega), Int.emod_lt_of_pos _ h0, ⟨_, 0, [], rfl, by simp⟩, ?_⟩
      intro M
      rw [cfl T.h71]
      simp [f71, op2, ix0, ix1, iN0, iN1, h0]
    | cons c rest =>
      have hl : rest.length + 1 ≤ 1000 := by simpa using hr
      have q1 : (2 : Int) < (rest.length : Int) + 1 + 1 + 1 := by omega
      have q2 : rest.length + 1 + 1 + 1 < 16777216 := by omega
      have pA : popAtL (.lst (.int a :: .int 0 :: .int c :: rest.map .int)) (.int 2) = some (.int c, .int a :: .int 0 :: rest.map .int) := by
        simp [popAtL, q1, q2]
      by_cases hc : 0 < c
      · refine ⟨c % n, .lst (.int a :: .int (c / n) :: rest.map .int), Int.emod_nonneg _ (by omega), Int.emod_lt_of_pos _ h0, ⟨a, c / n, rest, rfl, by omega⟩, ?_⟩
        intro M
        rw [cfl T.h71]
        simp [f71, op2, ix0, ix1, iN0, iN1, h0, hn, q1, pA, popW, hc]
      · refine ⟨((a * 48271 + 11) % 2147483647 / 64) % n, .lst (.int ((a * 48271 + 11) % 2147483647) :: .int c :: rest.map .int), Int.emod_nonneg _ (by omega), Int.emod_lt_of_pos _ h0, ⟨_, c, rest, rfl, by omega⟩, ?_⟩
        intro M
        rw [cfl T.h71]
        simp [f71, op2, ix0, ix1, iN0, iN1, h0, hn, q1, pA, popW, hc]
  · have hb2 := beqN hb
    by_cases hc : 0 < b
    · refine ⟨b % n, .lst (.int a :: .int (b / n) :: rest.map .int), Int.emod_nonneg _ (by omega), Int.emod_lt_of_pos _ h0, ⟨a, b / n, rest, rfl, by omega⟩, ?_⟩
      intro M
      rw [cfl T.h71]
      simp [f71, op2, ix0, ix1, iN0, iN1, h0, hn, hb2, hc]
    · refine ⟨((a * 48271 + 11) % 2147483647 / 64) % n, .lst (.int ((a * 48271 + 11) % 2147483647) :: .int b :: rest.map .int), Int.emod_nonneg _ (by omega), Int.emod_lt_of_pos _ h0, ⟨_, b, rest, rfl, by omega⟩, ?_⟩
      intro M
      rw [cfl T.h71]
      simp [f71, op2, ix0, ix1, iN0, iN1, h0, hn, hb2, hc]
theorem c71n (T : TR tbl) (k : Nat) (n : Nat) (h0 : 0 < n) (hn : n < 1000000) {d : D} (hd : Good d) : ∃ (r : Nat) (d' : D), r < n ∧ Good d' ∧ ∀ M, callF tbl (k+1) 71 [.c 0, .v (.int n)] (d :: M) = .ok (.v (.int r)) (d' :: M) := by
  obtain ⟨r, d', h1, h2, h3, h4⟩ := c71 T k n (by omega) (by omega) hd
  refine ⟨r.toNat, d', by omega, h3, ?_⟩
  intro M; rw [h4 M, Int.toNat_of_nonneg h1]
theorem c72 (T : TR tbl) (k : Nat) (xs : List D) (h0 : xs ≠ []) (hn : xs.length < 1000000) {d : D} (hd : Good d) : ∃ (x : D) (d' : D), x ∈ xs ∧ Good d' ∧ ∀ M, callF tbl (k+2) 72 [.c 0, .v (.lst xs)] (d :: M) = .ok (.v x) (d' :: M) := by
  obtain ⟨r, d', h1, h2, h3⟩ := c71n T k xs.length (List.length_pos_iff.mpr h0) hn hd
  refine ⟨xs[r], d', List.getElem_mem h1, h2, ?_⟩
  intro M
  have ix : idxD (.lst xs) (.int (r : Int)) = some xs[r] := by rw [ixD_l]; simp [h1]
  rw [cfl T.h72]
  simp [f72, h3, ix]
/-- one of some coded things -/
theorem c72c (T : TR tbl) (k : Nat) {α : Type} (c : α → D) (xs : List α) (ys : List D) (hy : ys = xs.map c) (h0 : xs ≠ []) (hn : xs.length < 1000000) {d : D} (hd : Good d) : ∃ (x : α) (d' : D), x ∈ xs ∧ Good d' ∧ ∀ M, callF tbl (k+2) 72 [.c 0, .v (.lst ys)] (d :: M) = .ok (.v (c x)) (d' :: M) := by
  subst hy
  obtain ⟨x, d', h1, h2, h3⟩ := c72 T k (xs.map c) (by simpa using h0) (by simpa using hn) hd
  obtain ⟨z, hz, rfl⟩ := List.mem_map.mp h1
  exact ⟨z, d', hz, h2, h3⟩
end
end P
end Bf

set_option Elab.async false
set_option linter.all false
namespace Bf
namespace P
open PySem
/-! ### the law's draws: steps and facts -/
section
variable {tbl : Nat → Option FD} {M : Mem}
theorem c74 (T : TR tbl) (k : Nat) {d : D} (hd : Good d) : ∃ (l : Int × Int) (d' : D), lenOk l ∧ Good d' ∧ ∀ M, callF tbl (k+3) 74 [.c 0] (d :: M) = .ok (.v (dP l)) (d' :: M) := by
  obtain ⟨l, d', h1, h2, h3⟩ := c72c T k dP [(1, 0), (0, 1), (1, 1), (2, 0), (0, 2), (2, 1), (1, 2), (2, 2)] _ rfl (by simp) (by simp) hd
  refine ⟨l, d', ?_, h2, ?_⟩
  · simp only [List.mem_cons, List.not_mem_nil, or_false] at h1
    rcases h1 with rfl | rfl | rfl | rfl | rfl | rfl | rfl | rfl <;> exact ⟨by decide, by decide, by decide, by decide, by decide⟩
  · intro M
    simp only [List.map_cons, List.map_nil, dP] at h3
    rw [cfl T.h74]
    simp [f74, h3, dP]
theorem pick2 (T : TR tbl) (k : Nat) (s t : PySem.Str) {d : D} (hd : Good d) : ∃ (b : Bool) (d' : D), Good d' ∧ ∀ M, callF tbl (k+2) 72 [.c 0, .v (.lst [.str s, .str t])] (d :: M) = .ok (.v (sW b s t)) (d' :: M) := by
  obtain ⟨b, d', h1, h2, h3⟩ := c72c T k (fun b => sW b s t) [true, false] _ rfl (by simp) (by simp) hd
  exact ⟨b, d', h2, fun M => by simpa [sW] using h3 M⟩
theorem c75 (T : TR tbl) (k : Nat) (i : Nat) (hi : i < 1000) {d : D} (hd : Good d) : ∃ (m : Nm) (d' : D), nmOk i m ∧ Good d' ∧ ∀ M, callF tbl (k+3) 75 [.c 0, .v (.int i)] (d :: M) = .ok (.v (dNm m)) (d' :: M) := by
  obtain ⟨p, d1, hp, g1, e1⟩ := c71n T (k+1) 8 (by omega) (by omega) hd
  have e1 : ∀ M, callF tbl (k+2) 71 [.c 0, .v (.int 8)] (d :: M) = .ok (.v (.int p)) (d1 :: M) := e1
  by_cases h1 : p = 0 ∨ (i = 0 ∧ p < 7)
  · refine ⟨.start, d1, trivial, g1, ?_⟩
    intro M
    rw [cfl T.h75]
    by_cases h2 : p = 0
    · subst h2; simp [f75, e1, op2, dNm]
    · have h3 : i = 0 ∧ p < 7 := by rcases h1 with h | h; exact absurd h h2; exact h
      obtain ⟨rfl, h4⟩ := h3
      have a1 : ((p : Int) == 0) = false := beqN (by omega)
      have a2 : (p : Int) < 7 := by omega
      simp [f75, e1, op2, dNm, a1, a2]
  · have a1 : ((p : Int) == 0) = false := beqN (by omega)
    by_cases h2 : p < 4 ∨ i = 0
    · obtain ⟨b, d2, g2, e2⟩ := pick2 T k "left" "right" g1
      obtain ⟨c, d3, hc, g3, e3⟩ := c72c T k (fun (n : Nat) => D.int (n : Int)) [0, 0, 1, 2, 3] [.int 0, .int 0, .int 1, .int 2, .int 3] rfl (by simp) (by simp) g2
      refine ⟨.count b c, d3, ?_, g3, ?_⟩
      · simp at hc; show c ≤ 3; omega
      · intro M
        rw [cfl T.h75]
        by_cases hi0 : i = 0
        · subst hi0
          have a2 : ¬ (p : Int) < 7 := by omega
          by_cases h5 : p < 4
          · omega
          · have a3 : ¬ (p : Int) < 4 := by omega
            simp [f75, e1, op2, dNm, a1, a2, a3, e2, e3]
        · have a2 : ((i : Int) == 0) = false := beqN (by omega)
          have a3 : (p : Int) < 4 := by omega
          simp [f75, e1, op2, dNm, a1, a2, a3, e2, e3]
    · have hi0 : 0 < i := by omega
      have a2 : ((i : Int) == 0) = false := beqN (by omega)
      have a3 : ¬ (p : Int) < 4 := by omega
      obtain ⟨j, d2, hj, g2, e2⟩ := c71n T (k+1) i hi0 (by omega) g1
      by_cases h5 : p < 6
      · obtain ⟨b, d3, g3, e3⟩ := pick2 T k "near" "far" g2
        refine ⟨.ende j b, d3, hj, g3, ?_⟩
        intro M
        have a4 : (p : Int) < 6 := by omega
        rw [cfl T.h75]
        simp [f75, e1, op2, dNm, a1, a2, a3, a4, e2, e3]
      · obtain ⟨b, d3, g3, e3⟩ := pick2 T k "left" "right" g2
        refine ⟨.beside j b, d3, hj, g3, ?_⟩
        intro M
        have a4 : ¬ (p : Int) < 6 := by omega
        rw [cfl T.h75]
        simp [f75, e1, op2, dNm, a1, a2, a3, a4, e2, e3]
theorem b76 (T : TR tbl) (k : Nat) (N : D) (i : Nat) (hi : i < 1000) (acc : List Stp) (ha : acc.length ≤ 1000) {d : D} (hd : Good d) (x4 : Option W) : ∃ (s : Stp) (d' : D) (y4 : Option W), stpOk i s ∧ Good d' ∧ ∀ (n0 : Nat) (M : Mem),
    evSs (callF tbl (k+3)) n0 f76_b0 [some (.c 0), some (.v N), some (.c (M.length + 1)), some (.v (.int i)), x4] (d :: (M ++ [.lst (acc.map dStp)])) = .nx [some (.c 0), some (.v N), some (.c (M.length + 1)), some (.v (.int i)), y4] (d' :: (M ++ [.lst ((acc ++ [s]).map dStp)])) := by
  have hw : ∃ (b : Bool) (d1 : D), Good d1 ∧ ∀ M, callF tbl (k+3) 72 [.c 0, .v (.lst (if 0 < i then [.str "add", .str "add", .str "cut"] else [.str "add", .str "add", .str "add", .str "cut"]))] (d :: M) = .ok (.v (sW b "add" "cut")) (d1 :: M) := by
    by_cases h : 0 < i
    · obtain ⟨b, d', h1, h2, h3⟩ := c72c T (k+1) (fun b => sW b "add" "cut") [true, true, false] _ rfl (by simp) (by simp) hd
      exact ⟨b, d', h2, fun M => by rw [if_pos h]; simpa [sW] using h3 M⟩
    · obtain ⟨b, d', h1, h2, h3⟩ := c72c T (k+1) (fun b => sW b "add" "cut") [true, true, true, false] _ rfl (by simp) (by simp) hd
      exact ⟨b, d', h2, fun M => by rw [if_neg h]; simpa [sW] using h3 M⟩
  obtain ⟨a, d1, g1, e1⟩ := hw
  obtain ⟨m, d2, hm, g2, e2⟩ := c75 T k i hi g1
  obtain ⟨r, d3, hr, g3, e3⟩ := c72c T (k+1) (fun b => sW b "right" "left") [false, true, true] [.str "left", .str "right", .str "right"] rfl (by simp) (by simp) g2
  obtain ⟨l, d4, hl, g4, e4⟩ := c74 T k g3
  refine ⟨⟨a, m, r, l⟩, d4, some (.v (sW a "add" "cut")), ⟨hm, hl⟩, g4, ?_⟩
  intro n0 M
  have hL : acc.length < 16777216 := by omega
  have es : dStp ⟨a, m, r, l⟩ = .tup [sW a "add" "cut", dNm m, sW r "right" "left", dP l] := rfl
  by_cases h : 0 < i
  · have h' : (0 : Int) < i := by omega
    simp only [if_pos h] at e1
    simp [f76_b0, op2, h, h', e1, e2, e3, e4, hL, es]
  · have h' : ¬ (0 : Int) < i := by omega
    simp only [if_neg h] at e1
    simp [f76_b0, op2, h, h', e1, e2, e3, e4, hL, es]
theorem l76 (T : TR tbl) (k : Nat) (N : D) : ∀ (n j : Nat) (acc : List Stp), acc.length = j → j + n ≤ 1000 → (∀ i (s : Stp), acc[i]? = some s → stpOk i s) → ∀ {d : D}, Good d → ∀ (x3 x4 : Option W), ∃ (ss : List Stp) (d' : D) (y3 y4 : Option W), ss.length = j + n ∧ (∀ i (s : Stp), ss[i]? = some s → stpOk i s) ∧ Good d' ∧ ∀ (n0 : Nat) (M : Mem),
    loopS (callF tbl (k+3)) n0 (.v 3) f76_b0 ((List.range' j n).map fun (i : Nat) => .int (i : Int)) [some (.c 0), some (.v N), some (.c (M.length + 1)), x3, x4] (d :: (M ++ [.lst (acc.map dStp)])) = .nx [some (.c 0), some (.v N), some (.c (M.length + 1)), y3, y4] (d' :: (M ++ [.lst (ss.map dStp)]))
  | 0, j, acc, hj, _, ho, d, hd, x3, x4 => ⟨acc, d, x3, x4, by omega, ho, hd, fun n0 M => rfl⟩
  | n + 1, j, acc, hj, hn, ho, d, hd, x3, x4 => by
    obtain ⟨s, d1, y4, hs, g1, e1⟩ := b76 T k N j (by omega) acc (by omega) hd x4
    obtain ⟨ss, d2, z3, z4, q1, q2, g2, e2⟩ := l76 T k N n (j + 1) (acc ++ [s]) (by simp [hj]) (by omega) (by
      intro i t ht
      by_cases hi : i < acc.length
      · rw [List.getElem?_append_left hi] at ht; exact ho i t ht
      · rw [List.getElem?_append_right (by omega)] at ht
        have h0 : i - acc.length = 0 := by
          cases hq : i - acc.length with
          | zero => rfl
          | succ q => rw [hq] at ht; simp at ht
        rw [h0] at ht; simp at ht; subst ht
        have : i = j := by omega
        subst this; exact hs) g1 (some (.v (.int j))) y4
    refine ⟨ss, d2, z3, z4, by omega, q2, g2, ?_⟩
    intro n0 M
    rw [List.range'_succ, List.map_cons, loopS_nx (v2 := _) (by rfl) (e1 n0 M), e2 n0 M]
theorem c76 (T : TR tbl) (k n : Nat) (hn : n ≤ 100) {d : D} (hd : Good d) : ∃ (ss : List Stp) (d' : D), ss.length = n ∧ (∀ i (s : Stp), ss[i]? = some s → stpOk i s) ∧ Good d' ∧ ∀ M, callF tbl (k+4) 76 [.c 0, .v (.int n)] (d :: M) = .ok (.v (dStps ss)) (d' :: M) := by
  obtain ⟨ss, d', y3, y4, q1, q2, g, e⟩ := l76 T k (.int n) n 0 [] rfl (by omega) (by intro i s h; simp at h) hd none none
  refine ⟨ss, d', by omega, q2, g, ?_⟩
  intro M
  have e := e (M.length + 1) M
  rw [← List.range_eq_range', List.map_nil] at e
  have c1 : (-1000000 : Int) < n := by omega
  have c2 : (n : Int) < 1000000 := by omega
  rw [cfl T.h76]
  simp [f76, c1, c2, e, dStps]
theorem c77s (T : TR tbl) (k : Nat) {d : D} (hd : Good d) : ∃ (fs : List Fct) (d' : D), (fctsOk fs ∧ ∃ s : Int × Int, (1 ≤ s.1 ∧ s.1 ≤ 3 ∧ 1 ≤ s.2 ∧ s.2 ≤ 3) ∧ keeps fs s = true) ∧ Good d' ∧ ∀ M, callF tbl (k+3) 77 [.c 0] (d :: M) = .ok (.v (dFcts fs)) (d' :: M) := by
  obtain ⟨fs, d', h1, h2, h3⟩ := c72c T k dFcts [[], [], [⟨true, (1, 0), (0, 1)⟩], [⟨true, (0, 1), (1, 0)⟩], [⟨false, (1, 0), (0, 1)⟩], [⟨true, (0, 1), (2, 0)⟩, ⟨true, (1, 0), (0, 1)⟩], [⟨false, (2, 0), (0, 1)⟩], [⟨true, (1, 1), (0, 2)⟩], [⟨true, (0, 2), (1, 0)⟩]] _ rfl (by simp) (by simp) hd
  refine ⟨fs, d', ⟨?_, ?_⟩, h2, ?_⟩
  · simp only [List.mem_cons, List.not_mem_nil, or_false] at h1
    have q : ∀ l : Int × Int, l ∈ [(1, 0), (0, 1), (2, 0), (1, 1), (0, 2)] → lenOk l := by
      intro l hl
      simp only [List.mem_cons, List.not_mem_nil, or_false] at hl
      rcases hl with rfl | rfl | rfl | rfl | rfl <;> exact ⟨by decide, by decide, by decide, by decide, by decide⟩
    rcases h1 with rfl | rfl | rfl | rfl | rfl | rfl | rfl | rfl | rfl <;> refine ⟨by decide, ?_⟩ <;> intro f hf <;> simp only [List.mem_cons, List.not_mem_nil, or_false] at hf
    all_goals first
      | exact hf.elim
      | (subst hf; exact ⟨q _ (by decide), q _ (by decide)⟩)
      | (rcases hf with rfl | rfl <;> exact ⟨q _ (by decide), q _ (by decide)⟩)
  · simp only [List.mem_cons, List.not_mem_nil, or_false] at h1
    rcases h1 with rfl | rfl | rfl | rfl | rfl | rfl | rfl | rfl | rfl
    · exact ⟨(1, 1), by decide, by decide⟩
    · exact ⟨(1, 1), by decide, by decide⟩
    · exact ⟨(1, 2), by decide, by decide⟩
    · exact ⟨(2, 1), by decide, by decide⟩
    · exact ⟨(1, 1), by decide, by decide⟩
    · exact ⟨(2, 3), by decide, by decide⟩
    · exact ⟨(1, 2), by decide, by decide⟩
    · exact ⟨(1, 2), by decide, by decide⟩
    · exact ⟨(3, 1), by decide, by decide⟩
  · intro M
    simp only [List.map_cons, List.map_nil, dFcts, dFct, dP, sW] at h3
    rw [cfl T.h77]
    simp at h3
    simp [f77, op2, h3, dFcts, dFct, dP, sW]
theorem c77 (T : TR tbl) (k : Nat) {d : D} (hd : Good d) : ∃ (fs : List Fct) (d' : D), fctsOk fs ∧ Good d' ∧ ∀ M, callF tbl (k+3) 77 [.c 0] (d :: M) = .ok (.v (dFcts fs)) (d' :: M) := by
  obtain ⟨fs, d', h, g, e⟩ := c77s T k hd
  exact ⟨fs, d', h.1, g, e⟩
theorem seed_lt (x : Int) : 0 ≤ x % 2147483647 := Int.emod_nonneg _ (by decide)
theorem l70 (cl : Nat → List W → Mem → Rs W) (S : D) : ∀ (ns : List Int) (a b : Int) (x3 : Option W), ∃ (c : Int) (y3 : Option W), ∀ n0 M, loopS cl n0 (.v 3) f70_b0 (ns.map .int) [some (.v S), some (.v (.int a)), some (.v (.int b)), x3] M = .nx [some (.v S), some (.v (.int a)), some (.v (.int c)), y3] M
  | [], a, b, x3 => ⟨b, x3, fun n0 M => rfl⟩
  | n :: ns, a, b, x3 => by
    obtain ⟨c, y3, ih⟩ := l70 cl S ns a ((b * 31 + (if n < 0 then -n else n)) % 2147483647) (some (.v (.int n)))
    refine ⟨c, y3, ?_⟩
    intro n0 M
    have hb : evSs cl n0 f70_b0 [some (.v S), some (.v (.int a)), some (.v (.int b)), some (.v (.int n))] M = .nx [some (.v S), some (.v (.int a)), some (.v (.int ((b * 31 + (if n < 0 then -n else n)) % 2147483647))), some (.v (.int n))] M := by
      simp [f70_b0, op2]
    rw [List.map_cons, loopS_nx (v2 := _) (by rfl) hb, ih]
theorem c70 (T : TR tbl) (k : Nat) (ns : List Int) (hn : ns.length ≤ 63) (salt : Int) : ∃ xs, Good (.lst xs) ∧ ∀ M, callF tbl (k+1) 70 [.v (.scr ns), .v (.int salt)] M = .ok (.n xs) M := by
  obtain ⟨c, y3, h⟩ := l70 (callF tbl k) (.scr ns) ns salt salt none
  have hl := List.length_filter_le (fun x => decide ((1000000000000000000 : Int) ≤ x)) ns
  refine ⟨.int c :: .int 0 :: (ns.filter fun x => decide ((1000000000000000000 : Int) ≤ x)).map .int, ⟨c, 0, _, rfl, by omega⟩, ?_⟩
  intro M
  have f1 : ∀ x2 x3, lcS (callF tbl k) (.var 3) (.v 3) (.so (.b2 .ge (.var 3) (.b2 .pow (.lit (.int 10)) (.lit (.int 18))))) (ns.map .int) [some (.v (.scr ns)), some (.v (.int salt)), x2, x3] M = .ok (.n ((ns.filter fun x => decide ((1000000000000000000 : Int) ≤ x)).map .int)) M := by
    intro x2 x3
    refine lcS_flt D.int _ D.int ns ?_ (by simp; omega)
    intro x _
    by_cases hx : (1000000000000000000 : Int) ≤ x <;> simp [lcB, bindT, wipeE, Tg.own, op2, hx]
  have hi : items (.scr ns) = some (ns.map .int) := rfl
  have h2 : 2 + (ns.filter fun x => decide ((1000000000000000000 : Int) ≤ x)).length ≤ 16777216 := by omega
  generalize (ns.filter fun x => decide ((1000000000000000000 : Int) ≤ x)) = rs at f1 h2
  have h3 : rs.length + 1 + 1 ≤ 16777216 := by omega
  rw [cfl T.h70]
  simp [f70, hi, h M.length M, f1, h2]
end
end P
end Bf

set_option Elab.async false
set_option linter.all false
namespace Bf
namespace P
open PySem
/-! ### _law_equal of a thing and itself -/
/-- plain, at most n deep, rows short -/
def sm : Nat → D → Bool
  | _, .non => true
  | _, .bl _ => true
  | _, .int _ => true
  | _, .str _ => true
  | n + 1, .tup xs => decide (xs.length ≤ 200000) && xs.all (sm n)
  | n + 1, .lst xs => decide (xs.length ≤ 200000) && xs.all (sm n)
  | _, _ => false
section
variable {tbl : Nat → Option FD} {M : Mem}
theorem str_refl (s : PySem.Str) : (s == s) = true := by simp
theorem e73 (h : tbl 73 = some f73) : ∀ (n : Nat) (x : D), sm n x = true → ∀ (k : Nat) (M : Mem), callF tbl (k+n+1) 73 [.v x, .v x] M = .ok (.v (.bl true)) M := by
  intro n
  induction n with
  | zero =>
    intro x hx k M
    rw [cfl h]
    cases x with
    | non => simp [f73, op2, isNonD]
    | bl b => simp [f73, op2, isNonD]
    | int i => simp [f73, op2, isNonD]
    | str s => simp [f73, op2, isNonD]
    | _ => cases hx
  | succ n ih =>
    intro x hx k M
    have step : ∀ (xs : List D) (a : D), (∀ j (hj : j < xs.length), idxD a (.int (j : Int)) = some xs[j]) → (∀ y ∈ xs, sm n y = true) → xs.length ≤ 200000 → ∀ x3 : Option W, lcS (callF tbl (k+n+1)) (.call 73 (.cons (.idx (.var 0) (.var 2)) (.cons (.idx (.var 1) (.var 2)) .nil))) (.v 2) .no ((List.range xs.length).map fun (i : Nat) => .int (i : Int)) [some (.v a), some (.v a), none, x3] M = .ok (.n ((List.range xs.length).map fun _ => .bl true)) M := by
      intro xs a ha hs hl x3
      refine lcS_map _ _ _ ?_ (by simp; omega)
      intro j hj
      have hj := List.mem_range.mp hj
      simp [lcB, bindT, wipeE, Tg.own, ha j hj, ih xs[j] (hs _ (List.getElem_mem hj)) k]
    rw [show k + (n + 1) + 1 = (k + n + 1) + 1 from by omega, cfl h]
    have ht : ∀ m : Nat, ((List.range m).all fun _ => true) = true := by intro m; simp
    cases x with
    | non => simp [f73, op2, isNonD]
    | bl b => simp [f73, op2, isNonD]
    | int i => simp [f73, op2, isNonD]
    | str s => simp [f73, op2, isNonD]
    | tup xs =>
      have hx : (decide (xs.length ≤ 200000) && xs.all (sm n)) = true := hx
      rw [Bool.and_eq_true, decide_eq_true_eq, List.all_eq_true] at hx
      have c1 : (-1000000 : Int) < xs.length := by omega
      have c2 : (xs.length : Int) < 1000000 := by omega
      have f1 := step xs (.tup xs) (by intro j hj; rw [ixD_t]; simp [hj]) hx.2 hx.1 none
      simp [f73, op2, isNonD, c1, c2, f1, allBl_true, ht]
    | lst xs =>
      have hx : (decide (xs.length ≤ 200000) && xs.all (sm n)) = true := hx
      rw [Bool.and_eq_true, decide_eq_true_eq, List.all_eq_true] at hx
      have c1 : (-1000000 : Int) < xs.length := by omega
      have c2 : (xs.length : Int) < 1000000 := by omega
      have f1 := step xs (.lst xs) (by intro j hj; rw [ixD_l]; simp [hj]) hx.2 hx.1 none
      simp [f73, op2, isNonD, c1, c2, f1, allBl_true, ht]
    | _ => cases hx
theorem e73c (h : tbl 73 = some f73) (n : Nat) (xs : List D) (hx : sm (n+1) (.lst xs) = true) (i : Nat) (hi : M[i]? = some (.lst xs)) (k : Nat) : callF tbl (k+n+2) 73 [.v (.lst xs), .c i] M = .ok (.v (.bl true)) M := by
  have hx : (decide (xs.length ≤ 200000) && xs.all (sm n)) = true := hx
  rw [Bool.and_eq_true, decide_eq_true_eq, List.all_eq_true] at hx
  have f1 : ∀ x3 : Option W, lcS (callF tbl (k+n+1)) (.call 73 (.cons (.idx (.var 0) (.var 2)) (.cons (.idx (.var 1) (.var 2)) .nil))) (.v 2) .no ((List.range xs.length).map fun (i : Nat) => .int (i : Int)) [some (.v (.lst xs)), some (.c i), none, x3] M = .ok (.n ((List.range xs.length).map fun _ => .bl true)) M := by
    intro x3
    refine lcS_map _ _ _ ?_ (by simp; omega)
    intro j hj
    have hj := List.mem_range.mp hj
    have ha : idxD (.lst xs) (.int (j : Int)) = some xs[j] := by rw [ixD_l]; simp [hj]
    simp [lcB, bindT, wipeE, Tg.own, ha, hi, e73 h n xs[j] (hx.2 _ (List.getElem_mem hj)) k]
  have ht : ∀ m : Nat, ((List.range m).all fun _ => true) = true := by intro m; simp
  have c1 : (-1000000 : Int) < xs.length := by omega
  have c2 : (xs.length : Int) < 1000000 := by omega
  rw [cfl h]
  simp [f73, op2, isNonD, hi, c1, c2, f1, allBl_true, ht]
theorem sm_int (n : Nat) (i : Int) : sm n (.int i) = true := by cases n <;> rfl
theorem sm_bl (n : Nat) (i : Bool) : sm n (.bl i) = true := by cases n <;> rfl
theorem sm_str (n : Nat) (i : PySem.Str) : sm n (.str i) = true := by cases n <;> rfl
theorem sm_non (n : Nat) : sm n .non = true := by cases n <;> rfl
theorem sm_lst {n : Nat} {α : Type} (c : α → D) (xs : List α) (hl : xs.length ≤ 200000) (h : ∀ x ∈ xs, sm n (c x) = true) : sm (n+1) (.lst (xs.map c)) = true := by
  show (decide ((xs.map c).length ≤ 200000) && (xs.map c).all (sm n)) = true
  rw [Bool.and_eq_true, decide_eq_true_eq, List.all_eq_true]
  refine ⟨by simpa using hl, ?_⟩
  intro y hy; obtain ⟨x, hx, rfl⟩ := List.mem_map.mp hy; exact h x hx
theorem sm_tup {n : Nat} {α : Type} (c : α → D) (xs : List α) (hl : xs.length ≤ 200000) (h : ∀ x ∈ xs, sm n (c x) = true) : sm (n+1) (.tup (xs.map c)) = true := sm_lst c xs hl h
theorem sm_dP (n : Nat) (p : Int × Int) : sm (n+1) (dP p) = true := by simp [sm, dP, sm_int]
theorem sm_sW (n : Nat) (b : Bool) (s t : PySem.Str) : sm n (sW b s t) = true := sm_str n _
theorem sm_mark (n : Nat) (m : Nat × Bool) : sm (n+1) (dMark m) = true := by simp [sm, dMark, sm_int, sm_sW]
end
end P
end Bf

set_option Elab.async false
set_option linter.all false
namespace Bf
namespace P
open PySem
/-! ### numbers of pieces -/
structure TQ (tbl : Nat → Option FD) : Prop extends TS tbl where
  h41 : tbl 41 = some f41
  h42 : tbl 42 = some f42
  h43 : tbl 43 = some f43
def sdIns {α : Type} (bs : List (Nat × α)) (n : Nat) (s : α) : List (Nat × α) := if (lkB bs n).isSome then bs else bs ++ [(n, s)]
def fpG (ss : List Stp) : List (Nat × (Int × Int)) → List (Int × Int) → List (Nat × (Int × Int))
  | bs, [] => bs
  | bs, s :: zs => fpG ss (sdIns bs (runOf ss s).shown.length s) zs
theorem lkB_none {α : Type} : ∀ {bs : List (Nat × α)} {i : Nat}, lkB bs i = none → ∀ b ∈ bs, b.1 ≠ i
  | (j, y) :: bs, i, h, b, hb => by
    rw [lkB] at h
    by_cases hj : j = i
    · simp [hj] at h
    · simp [hj] at h
      rcases List.mem_cons.mp hb with rfl | hb
      · exact hj
      · exact lkB_none h b hb
theorem sd_nodup {α : Type} {bs : List (Nat × α)} (h : (bs.map (·.1)).Nodup) (n : Nat) (s : α) : ((sdIns bs n s).map (·.1)).Nodup := by
  unfold sdIns
  cases hl : lkB bs n with
  | some x => simpa using h
  | none =>
    simp only [Option.isSome_none, Bool.false_eq_true, if_false, List.map_append]
    refine List.nodup_append.mpr ⟨h, by simp, ?_⟩
    intro a ha b hb e
    obtain ⟨c, hc, rfl⟩ := List.mem_map.mp ha
    simp at hb
    exact lkB_none hl c hc (by rw [e, hb])
theorem sd_len {α : Type} (bs : List (Nat × α)) (n : Nat) (s : α) : (sdIns bs n s).length ≤ bs.length + 1 := by
  unfold sdIns; split <;> simp
theorem setdD_code {α : Type} (c : α → D) (bs : List (Nat × α)) (n : Nat) (s : α) (hl : bs.length < 16777216) : setdD (dKB c bs) (.int n) (c s) = some (dKB c (sdIns bs n s)) := by
  unfold sdIns
  cases h : lkB bs n with
  | some x => simp [dKB, setdD, look_code, h, hl]
  | none => simp [dKB, setdD, look_code, h, hl, put_new c bs n s (lkB_none h)]
theorem allS_len (fs : List Fct) (m : Nat) : (allS fs m).length ≤ m * m := by
  rw [← sort_sizes, List.length_mergeSort, ← rows_len m]; exact List.length_filter_le _ _
section
variable {tbl : Nat → Option FD} {M : Mem}
theorem fldv_shown (r : RunS) : fldW (.v (dRun r)) .shown M = some (.v (.lst (r.shown.map dP))) := by simp [fldW, dRun, okF, look]
theorem l41 (T : TQ tbl) (k n0 : Nat) (ss : List Stp) (hf : StpsFit ss) (fs : List Fct) : ∀ (zs : List (Int × Int)), (∀ z ∈ zs, 0 < z.1 ∧ 0 < z.2) → ∀ (bs : List (Nat × (Int × Int))), bs.length + zs.length < 16777216 → ∀ x2 : Option W, ∃ y2 : Option W, ∀ M : Mem,
    loopS (callF tbl (k+5)) n0 (.v 2) f41_b0 (zs.map dP) [some (.v (dPlan ss fs)), some (.c M.length), x2] (M ++ [dKB dP bs]) = .nx [some (.v (dPlan ss fs)), some (.c M.length), y2] (M ++ [dKB dP (fpG ss bs zs)])
  | [], _, bs, _, x2 => ⟨x2, fun M => rfl⟩
  | z :: zs, h, bs, hl, x2 => by
    rw [List.length_cons] at hl
    have hz := h z (by simp)
    have := sd_len bs (runOf ss z).shown.length z
    obtain ⟨y2, ih⟩ := l41 T k n0 ss hf fs zs (fun a ha => h a (by simp [ha])) (sdIns bs (runOf ss z).shown.length z) (by omega) (some (.v (dP z)))
    refine ⟨y2, ?_⟩
    intro M
    have e18 : ∀ N, callF tbl (k+5) 18 [.v (dPlan ss fs), .v (dP z)] N = _ := fun N => c18 T.toTD k ss hf.len hf.1 z hz.1 hz.2 fs
    have es := setdD_code dP bs (runOf ss z).shown.length z (by omega)
    have hb : evSs (callF tbl (k+5)) n0 f41_b0 [some (.v (dPlan ss fs)), some (.c M.length), some (.v (dP z))] (M ++ [dKB dP bs]) = .nx [some (.v (dPlan ss fs)), some (.c M.length), some (.v (dP z))] (M ++ [dKB dP (sdIns bs (runOf ss z).shown.length z)]) := by
      simp [f41_b0, e18, fldv_shown, isD_code, es]
    rw [List.map_cons, loopS_nx (v2 := _) (by rfl) hb, ih M, fpG]
def fpAll (ss : List Stp) (fs : List Fct) : List (Nat × (Int × Int)) := fpG ss [] (allS fs (4 * max 1 ss.length))
@[simp] theorem owncK {α : Type} (c : α → D) (bs : List (Nat × α)) : outR M.length (.rt (.c M.length) (M ++ [dKB c bs])) = .ok (.v (dKB c bs)) M := by simp [outR, outW, plainC, dKB]
theorem allS_pos {fs : List Fct} {m : Nat} {z : Int × Int} (h : z ∈ allS fs m) : 0 < z.1 ∧ 0 < z.2 := by
  have := (mem_allS.mp h).1; omega
theorem c41 (T : TQ tbl) (k : Nat) (ss : List Stp) (hf : StpsFit ss) (fs : List Fct) (hfs : ∀ f ∈ fs, fctOk f) : callF tbl (k+6) 41 [.v (dPlan ss fs)] M = .ok (.v (dKB dP (fpAll ss fs))) M := by
  have hm : 4 * max 1 ss.length ≤ 36 := by have := hf.1; omega
  have hl : (allS fs (4 * max 1 ss.length)).length ≤ 36 * 36 := Nat.le_trans (allS_len _ _) (Nat.mul_le_mul hm hm)
  obtain ⟨y2, ih⟩ := l41 T k M.length ss hf fs (allS fs (4 * max 1 ss.length)) (fun z hz => allS_pos hz) [] (by simp; omega) none
  have e23 : ∀ N, callF tbl (k+5) 23 [.v (dPlan ss fs), .v (.int ((4 * max 1 ss.length : Nat) : Int))] N = _ := fun N => c23 T.toTD T.h23 (k+2) ss fs hfs _ (by omega)
  have e26 : ∀ N, callF tbl (k+5) 26 [.v (.int ss.length)] N = _ := fun N => c26 T.h26 (k+4) ss.length
  have d1 : dKB dP ([] : List (Nat × (Int × Int))) = .dK [] [] := rfl
  rw [d1] at ih
  unfold fpAll
  generalize 4 * max 1 ss.length = m at ih e23 e26 hl ⊢
  rw [cfl T.h41]
  simp [f41, fld_osteps, len_stps, e26, e23, dSz, ih M]
theorem fpG_nd {ss : List Stp} : ∀ (zs : List (Int × Int)) (bs : List (Nat × (Int × Int))), (bs.map (·.1)).Nodup → ((fpG ss bs zs).map (·.1)).Nodup
  | [], _, h => h
  | z :: zs, bs, h => by rw [fpG]; exact fpG_nd zs _ (sd_nodup h _ _)
theorem fpG_len {ss : List Stp} : ∀ (zs : List (Int × Int)) (bs : List (Nat × (Int × Int))), (fpG ss bs zs).length ≤ bs.length + zs.length
  | [], bs => by simp [fpG]
  | z :: zs, bs => by
    rw [fpG, List.length_cons]
    have := fpG_len (ss := ss) zs (sdIns bs (runOf ss z).shown.length z)
    have := sd_len bs (runOf ss z).shown.length z
    omega
/-- the keys, ascending -/
def keysS {α : Type} (bs : List (Nat × α)) : List Nat := (bs.map (·.1)).mergeSort (fun a b => decide (a ≤ b))
theorem keys_sort {α : Type} (bs : List (Nat × α)) : (bs.map fun b => D.int (b.1 : Int)).mergeSort dLe = (keysS bs).map fun (i : Nat) => .int (i : Int) := by
  have h := sort_code (fun (i : Nat) => D.int (i : Int)) (fun a b h => inj_int h) (xs := bs.map (·.1)) (ys := keysS bs) ((List.mergeSort_perm _ _).symm) ?_
  · rw [List.map_map] at h; exact h
  · have h1 : (keysS bs).Pairwise fun a b => decide (a ≤ b) = true := List.pairwise_mergeSort (by intro a b c; simp; omega) (by intro a b; simp; omega) _
    refine h1.imp ?_
    intro a b hab
    have := of_decide_eq_true hab
    exact dLe_int (by omega)
theorem keys_sortable {α : Type} (bs : List (Nat × α)) : sortable (bs.map fun b => D.int (b.1 : Int)) = true := by
  have := sortable_int (bs.map fun b => (b.1 : Int)); rw [List.map_map] at this; exact this
theorem c42 (T : TQ tbl) (k : Nat) (ss : List Stp) (hf : StpsFit ss) (fs : List Fct) (hfs : ∀ f ∈ fs, fctOk f) : callF tbl (k+7) 42 [.v (dPlan ss fs)] M = .ok (.v (.lst ((keysS (fpAll ss fs)).map fun (i : Nat) => .int (i : Int)))) M := by
  have e41 : ∀ N, callF tbl (k+6) 41 [.v (dPlan ss fs)] N = _ := fun N => c41 T k ss hf fs hfs
  rw [cfl T.h42]
  simp [f42, e41, blist_code, keys_sortable, keys_sort]
def dOS : Option (Int × Int) → D
  | none => .non
  | some s => dP s
theorem c43 (T : TQ tbl) (k : Nat) (ss : List Stp) (hf : StpsFit ss) (fs : List Fct) (hfs : ∀ f ∈ fs, fctOk f) (n : Nat) : callF tbl (k+7) 43 [.v (dPlan ss fs), .v (.int n)] M = .ok (.v (dOS (lkB (fpAll ss fs) n))) M := by
  have e41 : ∀ N, callF tbl (k+6) 41 [.v (dPlan ss fs)] N = _ := fun N => c41 T k ss hf fs hfs
  have eg : getD2 (dKB dP (fpAll ss fs)) (.int n) .non = some (dOS (lkB (fpAll ss fs) n)) := by
    simp only [dKB, getD2, keyD_i, Option.map_some, look_code]
    cases lkB (fpAll ss fs) n <;> rfl
  rw [cfl T.h43]
  simp [f43, e41, isD_code, eg]
/-- any number that is no count of pieces, and what is no number -/
theorem c43o (T : TQ tbl) (k : Nat) (ss : List Stp) (hf : StpsFit ss) (fs : List Fct) (hfs : ∀ f ∈ fs, fctOk f) (x : D) (hx : (∃ i : Int, x = .int i ∧ ∀ b ∈ fpAll ss fs, (b.1 : Int) ≠ i) ∨ (tyD x = true ∧ (isTy .int x = false ∨ isTy .bool x = true))) : callF tbl (k+7) 43 [.v (dPlan ss fs), .v x] M = .ok (.v .non) M := by
  have e41 : ∀ N, callF tbl (k+6) 41 [.v (dPlan ss fs)] N = _ := fun N => c41 T k ss hf fs hfs
  rw [cfl T.h43]
  rcases hx with ⟨i, rfl, hi⟩ | ⟨h1, h2⟩
  · have eg : getD2 (dKB dP (fpAll ss fs)) (.int i) .non = some .non := by
      simp only [dKB, getD2, keyD, Option.map_some]
      have : ∀ bs : List (Nat × (Int × Int)), (∀ b ∈ bs, (b.1 : Int) ≠ i) → look (bs.map fun b => kI b.1) (bs.map fun b => dP b.2) (.inl i) = none := by
        intro bs
        induction bs with
        | nil => intro _; rfl
        | cons b bs ih =>
          intro h
          have hb := h b (by simp)
          rw [List.map_cons, List.map_cons, look, if_neg (by unfold kI; simp; exact hb), ih (fun c hc => h c (by simp [hc]))]
      rw [this _ hi]; rfl
    simp [f43, e41, isD_code, eg]
  · rcases h2 with h2 | h2
    · simp [f43, h1, h2]
    · cases hi : isTy .int x <;> simp [f43, h1, h2, hi]
end
end P
end Bf

set_option Elab.async false
set_option linter.all false
namespace Bf
namespace P
open PySem
/-! ### orders of steps -/
structure TO (tbl : Nat → Option FD) : Prop extends TS tbl where
  h38 : tbl 38 = some f38
  h39 : tbl 39 = some f39
  h40 : tbl 40 = some f40
theorem eqBs_code {α : Type} [DecidableEq α] (c : α → D) (h : ∀ a b, eqB (c a) (c b) = decide (a = b)) : ∀ xs ys : List α, eqBs (xs.map c) (ys.map c) = decide (xs = ys)
  | [], [] => rfl
  | [], _ :: _ => by simp [eqBs]
  | _ :: _, [] => by simp [eqBs]
  | x :: xs, y :: ys => by
    rw [List.map_cons, List.map_cons, eqBs, h, eqBs_code c h xs ys]
    by_cases e : x = y <;> by_cases e2 : xs = ys <;> simp [e, e2]
theorem eqD_code {α : Type} [DecidableEq α] (c : α → D) (h : ∀ a b, eqB (c a) (c b) = decide (a = b)) (hf : ∀ a, fits 19 (c a) = true) (xs ys : List α) : eqD (.lst (xs.map c)) (.lst (ys.map c)) = some (decide (xs = ys)) := by
  have f : ∀ zs : List α, fits 20 (.lst (zs.map c)) = true := fun zs => fits_lst (fits_all c zs fun x _ => hf x)
  have : eqD (.lst (xs.map c)) (.lst (ys.map c)) = if (fits 20 (.lst (xs.map c)) && fits 20 (.lst (ys.map c))) = true then some (eqB (.lst (xs.map c)) (.lst (ys.map c))) else none := rfl
  rw [this, f, f, eqB, eqBs_code c h]; rfl
theorem eqB_dP (a b : Int × Int) : eqB (dP a) (dP b) = decide (a = b) := by
  rcases a with ⟨a1, a2⟩; rcases b with ⟨b1, b2⟩
  by_cases e : a1 = b1 <;> by_cases e2 : a2 = b2 <;> simp [dP, eqB, eqBs, e, e2]
theorem eqD_pcs (xs ys : Pc) : eqD (.lst (xs.map dP)) (.lst (ys.map dP)) = some (decide (xs = ys)) := eqD_code dP eqB_dP (fun a => fits_dP 18 a) xs ys
/-- drawn the same by another order, up to m -/
def sameB (ss : List Stp) (zs : List (Int × Int)) (is : List Nat) : Bool := zs.all fun z => decide ((runOf ss z).shown = (runG z ss run0 is).shown)
def loO (n i : Nat) : List Nat := (List.range n).filter fun j => decide (j ≠ i)
def swO (n i : Nat) : List Nat := (List.range n).take i ++ (i + 1) :: i :: (List.range n).drop (i + 2)
theorem loO_ok (ss : List Stp) (i : Nat) : OrdOk ss (loO ss.length i) := ⟨fun j hj => List.mem_range.mp (List.mem_filter.mp hj).1, List.nodup_range.filter _⟩
theorem swO_ok (ss : List Stp) (i : Nat) (hi : i + 1 < ss.length) : OrdOk ss (swO ss.length i) := by
  have hp : (swO ss.length i).Perm (List.range ss.length) := by
    have e : List.range ss.length = (List.range ss.length).take i ++ i :: (i + 1) :: (List.range ss.length).drop (i + 2) := by
      have e1 : (List.range ss.length).drop i = i :: (i + 1) :: (List.range ss.length).drop (i + 2) := by
        rw [List.drop_eq_getElem_cons (by simp; omega), List.drop_eq_getElem_cons (by simp; omega)]; simp
      rw [← e1, List.take_append_drop]
    unfold swO
    refine List.Perm.trans ?_ (List.Perm.of_eq e.symm)
    exact List.Perm.append_left _ (List.Perm.swap _ _ _)
  exact ⟨fun j hj => List.mem_range.mp (hp.mem_iff.mp hj), hp.nodup_iff.mpr List.nodup_range⟩
@[simp] theorem allVe (xs : List D) : allV (xs.map .v) = some xs := by have := allVm xs []; simpa using this
@[simp] theorem allVf {α : Type} (g : α → D) (xs : List α) : allV (xs.map (W.v ∘ g)) = some (xs.map g) := by have := allVo g xs []; simpa using this
theorem cut_to (xs : List D) (i : Nat) (h : i ≤ xs.length) : cutD xs none (some (i : Int)) = xs.take i := by
  have h1 : HT.sIx xs.length 0 none = 0 := by simp [HT.sIx]
  have h2 : HT.sIx xs.length xs.length (some (i : Int)) = i := by rw [HT.sIx_nat]; omega
  rw [cutD, h1, h2]; simp
theorem cut_from (xs : List D) (i : Nat) (h : i ≤ xs.length) : cutD xs (some (i : Int)) none = xs.drop i := by
  have h1 : HT.sIx xs.length 0 (some (i : Int)) = i := by rw [HT.sIx_nat]; omega
  have h2 : HT.sIx xs.length xs.length none = xs.length := by simp [HT.sIx]
  rw [cutD, h1, h2, List.take_of_length_le (by simp)]
theorem cut_last (xs : List D) : cutD xs none (some (-1)) = xs.take (xs.length - 1) := by
  have h1 : HT.sIx xs.length 0 none = 0 := by simp [HT.sIx]
  have h2 : HT.sIx xs.length xs.length (some (-1)) = xs.length - 1 := by simp [HT.sIx]; omega
  rw [cutD, h1, h2]; simp
section
variable {tbl : Nat → Option FD} {M : Mem}
theorem l38 (T : TO tbl) (k n0 : Nat) (ss : List Stp) (hf : StpsFit ss) (fs : List Fct) (is : List Nat) (ho : OrdOk ss is) : ∀ (zs : List (Int × Int)), (∀ z ∈ zs, 0 < z.1 ∧ 0 < z.2) → ∀ x2 : Option W, ∃ y2 : Option W, ∀ M : Mem,
    loopS (callF tbl (k+5)) n0 (.v 2) f38_b0 (zs.map dP) [some (.v (dPlan ss fs)), some (.v (dOrd is)), x2] M = if sameB ss zs is = true then .nx [some (.v (dPlan ss fs)), some (.v (dOrd is)), y2] M else .rt (.v (.bl false)) M
  | [], _, x2 => ⟨x2, fun M => rfl⟩
  | z :: zs, h, x2 => by
    have hz := h z (by simp)
    obtain ⟨y2, ih⟩ := l38 T k n0 ss hf fs is ho zs (fun a ha => h a (by simp [ha])) (some (.v (dP z)))
    refine ⟨y2, ?_⟩
    intro M
    have e18 : ∀ N, callF tbl (k+5) 18 [.v (dPlan ss fs), .v (dP z)] N = _ := fun N => c18 T.toTD k ss hf.len hf.1 z hz.1 hz.2 fs
    have e13 : callF tbl (k+5) 13 [.c M.length, .v (dStps ss), .v (dP z), .v (dOrd is)] (M ++ [.ins 11 [] []]) = _ := c13 T.toTD (k+1) ss hf.len hf.1 z hz.1 hz.2 is ho
    have es : sameB ss (z :: zs) is = (decide ((runOf ss z).shown = (runG z ss run0 is).shown) && sameB ss zs is) := rfl
    have eq := eqD_pcs (runOf ss z).shown (runG z ss run0 is).shown
    rw [List.map_cons, es]
    cases hd : decide ((runOf ss z).shown = (runG z ss run0 is).shown) with
    | true =>
      rw [hd] at eq
      have hb : evSs (callF tbl (k+5)) n0 f38_b0 [some (.v (dPlan ss fs)), some (.v (dOrd is)), some (.v (dP z))] M = .nx [some (.v (dPlan ss fs)), some (.v (dOrd is)), some (.v (dP z))] M := by
        simp [f38_b0, e18, fldv_shown, fld_osteps, e13, made, op2, eq]
      rw [loopS_nx (v2 := _) (by rfl) hb, ih M, Bool.true_and]
    | false =>
      rw [hd] at eq
      have hb : evSs (callF tbl (k+5)) n0 f38_b0 [some (.v (dPlan ss fs)), some (.v (dOrd is)), some (.v (dP z))] M = .rt (.v (.bl false)) M := by
        simp [f38_b0, e18, fldv_shown, fld_osteps, e13, made, op2, eq]
      rw [loopS_rt (v2 := _) (by rfl) hb, Bool.false_and]; simp
theorem c38 (T : TO tbl) (k : Nat) (ss : List Stp) (hf : StpsFit ss) (fs : List Fct) (hfs : ∀ f ∈ fs, fctOk f) (is : List Nat) (ho : OrdOk ss is) : callF tbl (k+6) 38 [.v (dPlan ss fs), .v (dOrd is)] M = .ok (.v (.bl (sameB ss (allS fs (4 * max 1 (2 * ss.length))) is))) M := by
  have hm := hf.1
  obtain ⟨y2, ih⟩ := l38 T k M.length ss hf fs is ho (allS fs (4 * max 1 (2 * ss.length))) (fun z hz => allS_pos hz) none
  have e23 : ∀ N, callF tbl (k+5) 23 [.v (dPlan ss fs), .v (.int ((4 * max 1 (2 * ss.length) : Nat) : Int))] N = _ := fun N => c23 T.toTD T.h23 (k+2) ss fs hfs _ (by omega)
  have e26 : ∀ N, callF tbl (k+5) 26 [.v (.int ((2 * ss.length : Nat) : Int))] N = _ := fun N => c26 T.h26 (k+4) (2 * ss.length)
  have e2 : (2 : Int) * (ss.length : Int) = ((2 * ss.length : Nat) : Int) := by omega
  generalize 4 * max 1 (2 * ss.length) = m at ih e23 e26 ⊢
  generalize 2 * ss.length = q at e26 e2
  rw [cfl T.h38]
  cases hs : sameB ss (allS fs m) is <;> rw [hs] at ih <;> simp [f38, fld_osteps, len_stps, op2, e2, e26, e23, dSz, ih M]
theorem dOrd_get (is : List Nat) : dOrd is = .lst (is.map fun (i : Nat) => .int (i : Int)) := rfl
def needB (ss : List Stp) (fs : List Fct) : List Nat := (List.range ss.length).filter fun i => sameB ss (allS fs (4 * max 1 (2 * ss.length))) (loO ss.length i)
def swapB (ss : List Stp) (fs : List Fct) : List Nat := ((List.range ss.length).take (ss.length - 1)).filter fun i => sameB ss (allS fs (4 * max 1 (2 * ss.length))) (swO ss.length i)
theorem lcs_lo (cl : Nat → List W → Mem → Rs W) (n i : Nat) (hn : n ≤ 9) (a b c d : Option W) (N : Mem) (x : Nat) (hx : x < 4) : True := trivial
theorem c39 (T : TO tbl) (k : Nat) (ss : List Stp) (hf : StpsFit ss) (fs : List Fct) (hfs : ∀ f ∈ fs, fctOk f) : callF tbl (k+7) 39 [.v (dPlan ss fs)] M = .ok (.n ((needB ss fs).map fun (i : Nat) => .int (i : Int))) M := by
  have h9 := hf.1
  have f2 : ∀ (i : Nat), lcS (callF tbl (k+6)) (.var 3) (.v 3) (.so (.b2 .ne (.var 3) (.var 2))) ((List.range ss.length).map fun (i : Nat) => .int (i : Int)) [some (.v (dPlan ss fs)), some (.v (dOrd (List.range ss.length))), some (.v (.int i)), none] M = .ok (.n ((loO ss.length i).map fun (i : Nat) => .int (i : Int))) M := by
    intro i
    refine lcS_flt _ _ _ _ ?_ (by simp; omega)
    intro j _
    by_cases hj : j = i
    · simp [lcB, bindT, wipeE, Tg.own, op2, hj]
    · have h2 : ((j : Int) == (i : Int)) = false := beqN (by omega)
      simp [lcB, bindT, wipeE, Tg.own, op2, hj, h2]
  have f1 : ∀ x2 , lcS (callF tbl (k+6)) (.var 2) (.v 2) (.so (.call 38 (.cons (.var 0) (.cons (.lc (.var 3) (.v 3) (.e (.var 1)) (.so (.b2 .ne (.var 3) (.var 2)))) .nil)))) ((List.range ss.length).map fun (i : Nat) => .int (i : Int)) [some (.v (dPlan ss fs)), some (.v (dOrd (List.range ss.length))), x2, none] M = .ok (.n ((needB ss fs).map fun (i : Nat) => .int (i : Int))) M := by
    intro x2
    refine lcS_flt _ _ _ _ ?_ (by simp; omega)
    intro i _
    have e38 : callF tbl (k+6) 38 [.v (dPlan ss fs), .v (.lst ((loO ss.length i).map fun (i : Nat) => .int (i : Int)))] M = _ := c38 T k ss hf fs hfs (loO ss.length i) (loO_ok ss i)
    have hi : items (dOrd (List.range ss.length)) = some ((List.range ss.length).map fun (i : Nat) => .int (i : Int)) := rfl
    have f2 := f2 i
    cases hs : sameB ss (allS fs (4 * max 1 (2 * ss.length))) (loO ss.length i) <;> simp [lcB, bindT, wipeE, Tg.own, hi, f2, e38, hs]
  have er := rng_nat ss.length (by omega)
  rw [dOrd] at f1
  rw [cfl T.h39]
  simp [f39, fld_osteps, len_stps, er, f1, -bi_rng]
theorem b40 (T : TO tbl) (k n0 : Nat) (ss : List Stp) (hf : StpsFit ss) (fs : List Fct) (hfs : ∀ f ∈ fs, fctOk f) (i : Nat) (hi : i + 1 < ss.length) (acc : List Nat) (ha : acc.length ≤ 100) :
    evSs (callF tbl (k+6)) n0 f40_b0 [some (.v (dPlan ss fs)), some (.v (dOrd (List.range ss.length))), some (.c M.length), some (.v (.int i))] (M ++ [dOrd acc]) = .nx [some (.v (dPlan ss fs)), some (.v (dOrd (List.range ss.length))), some (.c M.length), some (.v (.int i))] (M ++ [dOrd (acc ++ [i].filter fun i => sameB ss (allS fs (4 * max 1 (2 * ss.length))) (swO ss.length i))]) := by
  have h9 := hf.1
  have e38 : ∀ N, callF tbl (k+6) 38 [.v (dPlan ss fs), .v (.lst (((List.range ss.length).map fun (i : Nat) => D.int (i : Int)).take i ++ .int ((i : Int) + 1) :: .int i :: ((List.range ss.length).map fun (i : Nat) => D.int (i : Int)).drop (i + 2)))] N = .ok (.v (.bl (sameB ss (allS fs (4 * max 1 (2 * ss.length))) (swO ss.length i)))) N := by
    intro N
    have := c38 (M := N) T k ss hf fs hfs (swO ss.length i) (swO_ok ss i hi)
    have e : dOrd (swO ss.length i) = .lst (((List.range ss.length).map fun (i : Nat) => D.int (i : Int)).take i ++ .int ((i : Int) + 1) :: .int i :: ((List.range ss.length).map fun (i : Nat) => D.int (i : Int)).drop (i + 2)) := by
      rw [dOrd, swO, List.map_append, List.map_cons, List.map_cons, List.map_take, List.map_drop]; rfl
    rw [e] at this; exact this
  have hl : ((List.range ss.length).map fun (i : Nat) => D.int (i : Int)).length = ss.length := by simp
  have s1 : sliceD (dOrd (List.range ss.length)) none (some (i : Int)) = some (.lst (((List.range ss.length).map fun (i : Nat) => D.int (i : Int)).take i)) := by
    rw [dOrd, sliceD, cut_to _ i (by rw [hl]; omega)]
  have s2 : sliceD (dOrd (List.range ss.length)) (some ((i : Int) + 2)) none = some (.lst (((List.range ss.length).map fun (i : Nat) => D.int (i : Int)).drop (i + 2))) := by
    rw [dOrd, sliceD, show ((i : Int) + 2) = ((i + 2 : Nat) : Int) from by omega, cut_from _ (i + 2) (by rw [hl]; omega)]
  have hA : (((List.range ss.length).map fun (i : Nat) => D.int (i : Int)).take i).length ≤ 9 := by rw [List.length_take, hl]; omega
  have hB : (((List.range ss.length).map fun (i : Nat) => D.int (i : Int)).drop (i + 2)).length ≤ 9 := by rw [List.length_drop, hl]; omega
  generalize (((List.range ss.length).map fun (i : Nat) => D.int (i : Int)).take i) = A at e38 s1 hA
  generalize (((List.range ss.length).map fun (i : Nat) => D.int (i : Int)).drop (i + 2)) = B at e38 s2 hB
  have hAB : A.length + (B.length + 1 + 1) ≤ 16777216 := by omega
  have hac : acc.length < 16777216 := by omega
  have i1 : isLst (some (dOrd acc)) = true := rfl
  cases hs : sameB ss (allS fs (4 * max 1 (2 * ss.length))) (swO ss.length i) with
  | true =>
    rw [hs] at e38
    have i2 : appD (dOrd acc) (.int i) = some (dOrd (acc ++ [i])) := by simp [dOrd, hac]
    simp [f40_b0, op2, s1, s2, hAB, e38, i1, i2, hs]
  | false =>
    rw [hs] at e38
    simp [f40_b0, op2, s1, s2, hAB, e38, hs]
theorem l40 (T : TO tbl) (k n0 : Nat) (ss : List Stp) (hf : StpsFit ss) (fs : List Fct) (hfs : ∀ f ∈ fs, fctOk f) : ∀ (is : List Nat), (∀ i ∈ is, i + 1 < ss.length) → ∀ (acc : List Nat), acc.length + is.length ≤ 100 → ∀ x3 : Option W, ∃ y3 : Option W, ∀ M : Mem,
    loopS (callF tbl (k+6)) n0 (.v 3) f40_b0 (is.map fun (i : Nat) => .int (i : Int)) [some (.v (dPlan ss fs)), some (.v (dOrd (List.range ss.length))), some (.c M.length), x3] (M ++ [dOrd acc]) = .nx [some (.v (dPlan ss fs)), some (.v (dOrd (List.range ss.length))), some (.c M.length), y3] (M ++ [dOrd (acc ++ is.filter fun i => sameB ss (allS fs (4 * max 1 (2 * ss.length))) (swO ss.length i))])
  | [], _, acc, _, x3 => ⟨x3, fun M => by simp [loopS_nil]⟩
  | i :: is, h, acc, ha, x3 => by
    rw [List.length_cons] at ha
    have h1 := List.length_filter_le (fun i => sameB ss (allS fs (4 * max 1 (2 * ss.length))) (swO ss.length i)) [i]
    simp only [List.length_cons, List.length_nil] at h1
    obtain ⟨y3, ih⟩ := l40 T k n0 ss hf fs hfs is (fun j hj => h j (by simp [hj])) (acc ++ [i].filter fun i => sameB ss (allS fs (4 * max 1 (2 * ss.length))) (swO ss.length i)) (by rw [List.length_append]; omega) (some (.v (.int i)))
    refine ⟨y3, ?_⟩
    intro M
    rw [List.map_cons, loopS_nx (v2 := _) (by rfl) (b40 T k n0 ss hf fs hfs i (h i (by simp)) acc (by omega)), ih M, List.append_assoc, ← List.filter_append]
    rfl
theorem c40 (T : TO tbl) (k : Nat) (ss : List Stp) (hf : StpsFit ss) (fs : List Fct) (hfs : ∀ f ∈ fs, fctOk f) : callF tbl (k+7) 40 [.v (dPlan ss fs)] M = .ok (.v (.lst ((swapB ss fs).map fun (i : Nat) => .int (i : Int)))) M := by
  have h9 := hf.1
  obtain ⟨y3, ih⟩ := l40 T k M.length ss hf fs hfs ((List.range ss.length).take (ss.length - 1)) (by
    intro i hi
    obtain ⟨j, hj, e⟩ := List.mem_iff_getElem.mp hi
    simp at e; rw [List.length_take, List.length_range] at hj; omega) [] (by rw [List.length_take, List.length_range]; simp; omega) none
  have ih := ih M
  rw [List.nil_append] at ih
  have er := rng_nat ss.length (by omega)
  have d0 : dOrd [] = .lst [] := rfl
  rw [d0] at ih
  have sl : sliceD (.lst ((List.range ss.length).map fun (i : Nat) => D.int (i : Int))) none (some (-1)) = some (.lst (((List.range ss.length).take (ss.length - 1)).map fun (i : Nat) => D.int (i : Int))) := by
    rw [sliceD, cut_last, List.map_take]; simp
  have io : isCell (.c M.length) = true := rfl
  have ow : ∀ l : List Nat, outR M.length (.rt (.c M.length) (M ++ [dOrd l])) = .ok (.v (.lst (l.map fun (i : Nat) => .int (i : Int)))) M := fun l => ownc _
  rw [cfl T.h40]
  rw [dOrd_get (List.range ss.length)] at ih
  simp [f40, fld_osteps, len_stps, er, sl, ih, ow, swapB, -bi_rng, -List.map_take, -List.take_range]
end
end P
end Bf

set_option Elab.async false
set_option linter.all false
namespace Bf
namespace P
open PySem
/-! ### any value and some pieces -/
def isI : D → Int → Bool
  | .int b, a => b == a
  | _, _ => false
def isP : D → Int × Int → Bool
  | .tup [x, y], p => isI x p.1 && isI y p.2
  | _, _ => false
def exR : List D → Pc → Bool
  | [], [] => true
  | x :: xs, p :: ps => isP x p && exR xs ps
  | _, _ => false
def isX : D → Pc → Bool
  | .lst xs, ps => exR xs ps
  | _, _ => false
theorem ty_fits {n : Nat} {x : D} (h : fits n x = true) : tyD x = true := by cases x <;> first | rfl | (cases n <;> cases h)
theorem all_range : ∀ (xs : List D) (ps : Pc), xs.length = ps.length → ((List.range ps.length).all fun k => isP ((xs[k]?).getD .non) ((ps[k]?).getD (0, 0))) = exR xs ps
  | [], [], _ => rfl
  | [], _ :: _, h => by simp at h
  | _ :: _, [], h => by simp at h
  | x :: xs, p :: ps, h => by
    have h : xs.length = ps.length := by simpa using h
    rw [exR, ← all_range xs ps h, List.length_cons, List.range_succ_eq_map, List.all_cons, List.all_map]
    rfl
theorem exR_len : ∀ {xs : List D} {ps : Pc}, exR xs ps = true → xs.length = ps.length
  | [], [], _ => rfl
  | [], _ :: _, h => by cases h
  | _ :: _, [], h => by cases h
  | x :: xs, p :: ps, h => by
    rw [exR, Bool.and_eq_true] at h
    rw [List.length_cons, List.length_cons, exR_len h.2]
section
variable {tbl : Nat → Option FD} {M : Mem}
theorem q0 (h : tbl 73 = some f73) (k : Nat) (x : D) (hx : tyD x = true) (a : Int) : callF tbl (k+1) 73 [.v x, .v (.int a)] M = .ok (.v (.bl (isI x a))) M := by
  rw [cfl h]
  cases x with
  | int b => simp [f73, op2, isNonD, isI]
  | bl b => simp [f73, op2, isNonD, isI]
  | non => simp [f73, op2, isNonD, isI]
  | str s => simp [f73, op2, isNonD, isI]
  | tup xs => simp [f73, op2, isNonD, isI]
  | lst xs => simp [f73, op2, isNonD, isI]
  | dK ks xs => simp [f73, op2, isNonD, isI]
  | _ => cases hx
theorem q1 (h : tbl 73 = some f73) (k : Nat) (x : D) (hx : fits 19 x = true) (p : Int × Int) : callF tbl (k+2) 73 [.v x, .v (dP p)] M = .ok (.v (.bl (isP x p))) M := by
  rw [cfl h]
  cases x with
  | int b => simp [f73, op2, isNonD, dP, isP]
  | bl b => simp [f73, op2, isNonD, dP, isP]
  | non => simp [f73, op2, isNonD, dP, isP]
  | str s => simp [f73, op2, isNonD, dP, isP]
  | lst xs => simp [f73, op2, isNonD, dP, isP]
  | tup xs =>
    have hxs : xs.all (fits 18) = true := hx
    by_cases hl : xs.length = 2
    · match xs, hl with
      | [y, z], _ =>
        have hy : fits 18 y = true ∧ fits 18 z = true := by simpa using hxs
        have q1 := q0 (M := M) h k y (ty_fits hy.1) p.1
        have q2 := q0 (M := M) h k z (ty_fits hy.2) p.2
        have hr : ((List.range (2 : Int).toNat).map fun (i : Nat) => D.int (i : Int)) = [0, 1].map fun (i : Nat) => D.int (i : Int) := by rfl
        have f1 : ∀ x3, lcS (callF tbl (k+1)) (.call 73 (.cons (.idx (.var 0) (.var 2)) (.cons (.idx (.var 1) (.var 2)) .nil))) (.v 2) .no [D.int 0, D.int 1] [some (.v (.tup [y, z])), some (.v (.tup [.int p.1, .int p.2])), none, x3] M = .ok (.n [.bl (isI y p.1), .bl (isI z p.2)]) M := by
          intro x3
          have := lcS_map (cl := callF tbl (k+1)) (elt := .call 73 (.cons (.idx (.var 0) (.var 2)) (.cons (.idx (.var 1) (.var 2)) .nil))) (tg := .v 2) (cond := .no) (e := [some (.v (.tup [y, z])), some (.v (.tup [.int p.1, .int p.2])), none, x3]) (M := M) (fun (b : Bool) => .int (if b then 1 else 0)) (fun b => if b then .bl (isI z p.2) else .bl (isI y p.1)) [false, true] ?_ (by simp)
          · simpa using this
          · intro b _
            cases b <;> simp [lcB, bindT, wipeE, Tg.own, q1, q2]
        have ab : allBl [.bl (isI y p.1), .bl (isI z p.2)] = some [isI y p.1, isI z p.2] := rfl
        have rg : List.range 2 = [0, 1] := rfl
        simp [f73, op2, isNonD, dP, isP, rg, f1, ab]
    · have h2 : ((xs.length : Int) == 2) = false := beqN (by omega)
      have hp : isP (.tup xs) p = false := by
        match xs, hl with
        | [], _ => rfl
        | [_], _ => rfl
        | [_, _], hl => exact absurd rfl hl
        | _ :: _ :: _ :: _, _ => rfl
      simp [f73, op2, isNonD, dP, hp, h2]
  | _ => cases hx
theorem q2 (h : tbl 73 = some f73) (k : Nat) (x : D) (hx : fits 20 x = true) (ps : Pc) (hl : ps.length ≤ 1000) : callF tbl (k+3) 73 [.v x, .v (.lst (ps.map dP))] M = .ok (.v (.bl (isX x ps))) M := by
  rw [cfl h]
  cases x with
  | int b => simp [f73, op2, isNonD, isX]
  | bl b => simp [f73, op2, isNonD, isX]
  | non => simp [f73, op2, isNonD, isX]
  | str s => simp [f73, op2, isNonD, isX]
  | tup xs => simp [f73, op2, isNonD, isX]
  | lst xs =>
    have hxs : xs.all (fits 19) = true := hx
    rw [List.all_eq_true] at hxs
    by_cases he : xs.length = ps.length
    · have f1 : ∀ x3, lcS (callF tbl (k+2)) (.call 73 (.cons (.idx (.var 0) (.var 2)) (.cons (.idx (.var 1) (.var 2)) .nil))) (.v 2) .no ((List.range ps.length).map fun (i : Nat) => .int (i : Int)) [some (.v (.lst xs)), some (.v (.lst (ps.map dP))), none, x3] M = .ok (.n (((List.range ps.length).map fun k => isP ((xs[k]?).getD .non) ((ps[k]?).getD (0, 0))).map .bl)) M := by
        intro x3
        rw [List.map_map]
        refine lcS_map _ _ _ ?_ (by simp; omega)
        intro j hj
        have hj := List.mem_range.mp hj
        have hj2 : j < xs.length := by omega
        have a0 : idxD (.lst xs) (.int (j : Int)) = some xs[j] := by rw [ixD_l]; simp [hj2]
        have a1 : idxD (.lst (ps.map dP)) (.int (j : Int)) = some (dP ps[j]) := by rw [ixD_l]; simp [hj]
        simp [lcB, bindT, wipeE, Tg.own, a0, a1, q1 h k xs[j] (hxs _ (List.getElem_mem hj2)), hj, hj2]
      have c1 : (-1000000 : Int) < ps.length := by omega
      have c2 : (ps.length : Int) < 1000000 := by omega
      have ab := allBl_map ((List.range ps.length).map fun k => isP ((xs[k]?).getD .non) ((ps[k]?).getD (0, 0)))
      have hr := all_range xs ps he
      have hq : (((List.range ps.length).map fun k => isP ((xs[k]?).getD .non) ((ps[k]?).getD (0, 0))).all id) = exR xs ps := by rw [← hr, List.all_map]; rfl
      generalize ((List.range ps.length).map fun k => isP ((xs[k]?).getD .non) ((ps[k]?).getD (0, 0))) = bs at f1 ab hq
      simp [f73, op2, isNonD, he, c1, c2, f1, ab, hq, isX]
    · have h2 : ((xs.length : Int) == (ps.length : Int)) = false := beqN (by omega)
      have h3 : exR xs ps = false := by
        cases h4 : exR xs ps with
        | false => rfl
        | true => exact absurd (exR_len h4) he
      simp [f73, op2, isNonD, h2, isX, h3]
  | _ => cases hx
/-- the program's test -/
theorem eqBs_P : ∀ (xs : List D) (ps : Pc), (∀ x ∈ xs, fits 19 x = true) → eqBs xs (ps.map dP) = true → (∃ qs : List (D × D), xs = qs.map (fun q => .tup [q.1, q.2]) ∧ qs.length = ps.length ∧ ∀ q ∈ qs, (∃ b, q.1 = .bl b ∨ ∃ i, q.1 = .int i) ∧ (∃ b, q.2 = .bl b ∨ ∃ i, q.2 = .int i)) ∧ True
  | [], [], _, _ => ⟨⟨[], rfl, rfl, fun _ h => nomatch h⟩, trivial⟩
  | [], _ :: _, _, h => by cases h
  | _ :: _, [], _, h => by cases h
  | x :: xs, p :: ps, hf, h => by
    rw [List.map_cons, eqBs, Bool.and_eq_true] at h
    obtain ⟨⟨qs, e, hl, hq⟩, _⟩ := eqBs_P xs ps (fun y hy => hf y (by simp [hy])) h.2
    have hx : ∃ a b : D, x = .tup [a, b] ∧ (∃ c, a = .bl c ∨ ∃ i, a = .int i) ∧ (∃ c, b = .bl c ∨ ∃ i, b = .int i) := by
      have h1 := h.1
      cases x with
      | tup ys =>
        match ys with
        | [] => simp [dP, eqB, eqBs] at h1
        | [_] => simp [dP, eqB, eqBs] at h1
        | _ :: _ :: _ :: _ => simp [dP, eqB, eqBs] at h1
        | [a, b] =>
          simp [dP, eqB, eqBs] at h1
          refine ⟨a, b, rfl, ?_, ?_⟩
          · cases a <;> simp [eqB] at h1 <;> simp
          · cases b <;> simp [eqB] at h1 <;> simp
      | _ => simp [dP, eqB] at h1
    obtain ⟨a, b, rfl, ha, hb⟩ := hx
    refine ⟨⟨(a, b) :: qs, by simp [e], by simp [hl], ?_⟩, trivial⟩
    intro q hq'
    rcases List.mem_cons.mp hq' with rfl | hq'
    · exact ⟨ha, hb⟩
    · exact hq q hq'
def noB (x : D) : Bool := !isTy .bool x
def t2 (q : D × D) : D := .tup [q.1, q.2]
theorem isI_eq {x : D} {a : Int} (h : isI x a = true) : x = .int a := by
  cases x <;> simp [isI] at h <;> simp [h]
theorem exR_eq : ∀ {xs : List D} {ps : Pc}, exR xs ps = true → xs = ps.map dP
  | [], [], _ => rfl
  | [], _ :: _, h => by cases h
  | _ :: _, [], h => by cases h
  | x :: xs, p :: ps, h => by
    rw [exR, Bool.and_eq_true] at h
    rw [List.map_cons, exR_eq h.2]
    congr 1
    have h1 := h.1
    cases x with
    | tup ys =>
      match ys with
      | [a, b] =>
        simp only [isP, Bool.and_eq_true] at h1
        rw [isI_eq h1.1, isI_eq h1.2]; rfl
      | [] => cases h1
      | [_] => cases h1
      | _ :: _ :: _ :: _ => cases h1
    | _ => cases h1
theorem ex_nb : ∀ (qs : List (D × D)) (ps : Pc), eqBs (qs.map t2) (ps.map dP) = true → (∀ q ∈ qs, (∃ b, q.1 = .bl b ∨ ∃ i, q.1 = .int i) ∧ (∃ b, q.2 = .bl b ∨ ∃ i, q.2 = .int i)) → exR (qs.map t2) ps = (qs.flatMap fun q => [noB q.1, noB q.2]).all id
  | [], [], _, _ => rfl
  | [], _ :: _, h, _ => by cases h
  | _ :: _, [], h, _ => by cases h
  | (a, b) :: qs, p :: ps, h, hq => by
    rw [List.map_cons, List.map_cons, eqBs, Bool.and_eq_true] at h
    have ih := ex_nb qs ps h.2 (fun q hq' => hq q (by simp [hq']))
    obtain ⟨⟨ca, ha⟩, ⟨cb, hb⟩⟩ := hq (a, b) (by simp)
    have h1 := h.1
    rw [List.map_cons, exR, ih, List.flatMap_cons, List.all_append]
    congr 1
    simp only [t2, dP, eqB, eqBs, Bool.and_true, Bool.and_eq_true] at h1
    have q : ∀ (x : D) (i : Int), (∃ c, x = .bl c ∨ ∃ j, x = .int j) → eqB x (.int i) = true → isI x i = noB x := by
      rintro x i ⟨c, rfl | ⟨j, rfl⟩⟩ he
      · rfl
      · simp [eqB] at he; simp [isI, noB, he]
    simp [isP, t2, q a p.1 ⟨ca, ha⟩ h1.1, q b p.2 ⟨cb, hb⟩ h1.2]
theorem c24 (h24 : tbl 24 = some f24) (k : Nat) (x : D) (hx : fits 20 x = true ∨ x = .dK [] []) (ps : Pc) (hl : ps.length ≤ 1000) : callF tbl (k+1) 24 [.v x, .v (.lst (ps.map dP))] M = .ok (.v (.bl (isX x ps))) M := by
  rw [cfl h24]
  rcases hx with hx | rfl
  · cases x with
    | int b => simp [f24, isX]
    | bl b => simp [f24, isX]
    | non => simp [f24, isX]
    | str s => simp [f24, isX]
    | tup xs => simp [f24, isX]
    | lst xs =>
      have hxs : xs.all (fits 19) = true := hx
      rw [List.all_eq_true] at hxs
      have fp : fits 20 (.lst (ps.map dP)) = true := fits_lst (fits_all dP ps fun x _ => fits_dP 18 x)
      have ee : eqD (.lst xs) (.lst (ps.map dP)) = some (eqBs xs (ps.map dP)) := by
        have : eqD (.lst xs) (.lst (ps.map dP)) = if (fits 20 (.lst xs) && fits 20 (.lst (ps.map dP))) = true then some (eqB (.lst xs) (.lst (ps.map dP))) else none := rfl
        rw [this, hx, fp, eqB]; rfl
      cases he : eqBs xs (ps.map dP) with
      | false =>
        rw [he] at ee
        have h3 : exR xs ps = false := by
          cases h4 : exR xs ps with
          | false => rfl
          | true =>
            rw [exR_eq h4, eqBs_code dP eqB_dP] at he
            simp at he
        simp [f24, op2, ee, isX, h3]
      | true =>
        rw [he] at ee
        obtain ⟨⟨qs, e, hl2, hq⟩, _⟩ := eqBs_P xs ps hxs he
        have e : xs = qs.map t2 := e
        subst e
        have f1 : ∀ x2 x3, lc2S (callF tbl k) (.not (.bi (.isi .bool) (.cons (.var 3) .nil))) (.v 2) (.v 3) (.e (.var 2)) (qs.map t2) [some (.v (.lst (qs.map t2))), some (.v (.lst (ps.map dP))), x2, x3] M = .ok (.n ((qs.flatMap fun q => [noB q.1, noB q.2]).map .bl)) M := by
          intro x2 x3
          have hlen : (qs.flatMap fun q => [noB q.1, noB q.2]).length = 2 * qs.length := by
            clear he hq hl2 hxs hx ee e
            induction qs with
            | nil => rfl
            | cons p qs ih => rw [List.flatMap_cons, List.length_append, ih, List.length_cons]; simp; omega
          rw [lc2S, catL_ok (g := fun d => match d with | .tup xs => xs.map fun x => .bl (noB x) | _ => [])]
          · have e : (qs.map t2).flatMap (fun d => match d with | .tup xs => xs.map fun x => D.bl (noB x) | _ => []) = (qs.flatMap fun q => [noB q.1, noB q.2]).map .bl := by
              clear he hq hl2 hxs hx ee hlen e
              induction qs with
              | nil => rfl
              | cons p qs ih => rw [List.map_cons, List.flatMap_cons, ih, List.flatMap_cons, List.map_append]; rfl
            rw [e, bo, if_pos (by rw [List.length_map, hlen]; show _ ≤ 16777216; omega)]
          · intro x hx'
            obtain ⟨⟨a, b⟩, hm, rfl⟩ := List.mem_map.mp hx'
            have hq := hq (a, b) hm
            have ta : tyD a = true := by obtain ⟨⟨c, h | ⟨j, h⟩⟩, _⟩ := hq <;> (simp only [] at h; rw [h]; rfl)
            have tb : tyD b = true := by obtain ⟨_, ⟨c, h | ⟨j, h⟩⟩⟩ := hq <;> (simp only [] at h; rw [h]; rfl)
            simp [bindT, wipeE, Tg.own, t2, mapL, optC, ta, tb, noB]
        have ab := allBl_map (qs.flatMap fun q => [noB q.1, noB q.2])
        have hx := ex_nb qs ps he hq
        simp [f24, op2, ee, isX, hx, f1, ab]
    | _ => cases hx
  · simp [f24, isX]
def fitS (x : D) (ss : List Stp) (zs : List (Int × Int)) : List (Int × Int) := zs.filter fun z => isX x (runOf ss z).shown
theorem shown_len (ss : List Stp) (hf : StpsFit ss) (z : Int × Int) (h1 : 0 < z.1) (h2 : 0 < z.2) (is : List Nat) (ho : OrdOk ss is) : (runG z ss run0 is).shown.length ≤ 1000 := by
  obtain ⟨a, b⟩ := runG_ho ss hf z h1 h2 is ho
  exact Nat.le_of_lt (Nat.lt_of_lt_of_le a.len (Nat.le_trans (Nat.pow_le_pow_right (by omega) b) (by decide)))
theorem c25 (T : TS0 tbl) (h24 : tbl 24 = some f24) (h25 : tbl 25 = some f25) (k : Nat) (ss : List Stp) (hf : StpsFit ss) (fs : List Fct) (hfs : ∀ f ∈ fs, fctOk f) (x : D) (hx : fits 20 x = true ∨ x = .dK [] []) (m : Nat) (hm : m ≤ 500) : callF tbl (k+6) 25 [.v (dPlan ss fs), .v x, .v (.int m)] M = .ok (.n ((fitS x ss (allS fs m)).map dP)) M := by
  have e23 : ∀ N, callF tbl (k+5) 23 [.v (dPlan ss fs), .v (.int m)] N = _ := fun N => c23 T.toTD T.h23 (k+2) ss fs hfs m (by omega)
  have hl : (allS fs m).length ≤ 500 * 500 := Nat.le_trans (allS_len _ _) (Nat.mul_le_mul hm hm)
  have f1 : ∀ x3, lcS (callF tbl (k+5)) (.var 3) (.v 3) (.so (.call 24 (.cons (.var 1) (.cons (.fld (.call 18 (.cons (.var 0) (.cons (.var 3) .nil))) .shown) .nil)))) ((allS fs m).map dP) [some (.v (dPlan ss fs)), some (.v x), some (.v (.int m)), x3] M = .ok (.n ((fitS x ss (allS fs m)).map dP)) M := by
    intro x3
    refine lcS_flt dP _ dP _ ?_ (by simp; omega)
    intro z hz
    have hp := allS_pos hz
    have e18 : ∀ N, callF tbl (k+5) 18 [.v (dPlan ss fs), .v (dP z)] N = _ := fun N => c18 T.toTD k ss hf.len hf.1 z hp.1 hp.2 fs
    have e24 : ∀ N, callF tbl (k+5) 24 [.v x, .v (.lst ((runOf ss z).shown.map dP))] N = _ := fun N => c24 h24 (k+4) x hx _ (shown_len ss hf z hp.1 hp.2 _ (ord_range ss))
    cases hs : isX x (runOf ss z).shown <;> simp [lcB, bindT, wipeE, Tg.own, e18, fldv_shown, e24, hs]
  rw [cfl h25]
  simp [f25, e23, dSz, f1]
end
end P
end Bf

set_option Elab.async false
set_option linter.all false
namespace Bf
namespace P
open PySem
/-! ### sizes asked for: drawn, done, named -/
structure TN (tbl : Nat → Option FD) : Prop extends TD tbl where
  h9 : tbl 9 = some f9
  h10 : tbl 10 = some f10
  h21 : tbl 21 = some f21
def posI : D → Bool
  | .int i => decide (0 < i)
  | _ => false
def okSz (fs : List Fct) : D → Bool
  | .tup [.int a, .int b] => decide (0 < a) && decide (0 < b) && keeps fs (a, b)
  | _ => false
theorem posI_eq {x : D} (h : posI x = true) : ∃ i, x = .int i ∧ 0 < i := by
  cases x <;> simp [posI] at h; exact ⟨_, rfl, h⟩
section
variable {tbl : Nat → Option FD} {M : Mem}
theorem c9 (T : TD tbl) (h9 : tbl 9 = some f9) (k : Nat) (ss : List Stp) (fs : List Fct) (hfs : ∀ f ∈ fs, fctOk f) (x : D) (hx : fits 20 x = true) : callF tbl (k+3) 9 [.v (dPlan ss fs), .v x] M = .ok (.v (.bl (okSz fs x))) M := by
  rw [cfl h9]
  cases x with
  | int b => simp [f9, okSz]
  | bl b => simp [f9, okSz]
  | non => simp [f9, okSz]
  | str s => simp [f9, okSz]
  | lst xs => simp [f9, okSz]
  | tup xs =>
    have hxs : xs.all (fits 19) = true := hx
    by_cases hl : xs.length = 2
    · match xs, hl with
      | [y, z], _ =>
        have hy : fits 19 y = true ∧ fits 19 z = true := by simpa using hxs
        have f1 : lcS (callF tbl (k+2)) (.and (.bi (.isi .int) (.cons (.var 2) .nil)) (.and (.not (.bi (.isi .bool) (.cons (.var 2) .nil))) (.b2 .gt (.var 2) (.lit (.int 0))))) (.v 2) .no [y, z] [some (.v (dPlan ss fs)), some (.v (.tup [y, z])), none] M = .ok (.n [.bl (posI y), .bl (posI z)]) M := by
          have h := lcS_map (cl := callF tbl (k+2)) (elt := .and (.bi (.isi .int) (.cons (.var 2) .nil)) (.and (.not (.bi (.isi .bool) (.cons (.var 2) .nil))) (.b2 .gt (.var 2) (.lit (.int 0))))) (tg := .v 2) (cond := .no) (e := [some (.v (dPlan ss fs)), some (.v (.tup [y, z])), none]) (M := M) (fun d : D => d) (fun d => .bl (posI d)) [y, z] ?_ (by simp)
          · simpa using h
          · intro d hd
            have hf : fits 19 d = true := by simp at hd; rcases hd with rfl | rfl; exact hy.1; exact hy.2
            have ht := ty_fits hf
            cases d with
            | int i => by_cases hi : 0 < i <;> simp [lcB, bindT, wipeE, Tg.own, op2, posI, hi]
            | bl b => simp [lcB, bindT, wipeE, Tg.own, posI]
            | non => simp [lcB, bindT, wipeE, Tg.own, posI]
            | str s => simp [lcB, bindT, wipeE, Tg.own, posI]
            | tup s => simp [lcB, bindT, wipeE, Tg.own, posI]
            | lst s => simp [lcB, bindT, wipeE, Tg.own, posI]
            | _ => cases hf
        have ab : allBl [.bl (posI y), .bl (posI z)] = some [posI y, posI z] := rfl
        cases h1 : posI y with
        | false =>
          have e : okSz fs (.tup [y, z]) = false := by
            cases y <;> first | rfl | (cases z <;> first | rfl | (simp [posI] at h1; simp [okSz]; intro h; omega))
          rw [h1] at f1 ab
          simp [f9, op2, f1, ab, e]
        | true => cases h2 : posI z with
          | false =>
            have e : okSz fs (.tup [y, z]) = false := by
              cases y <;> first | rfl | (cases z <;> first | rfl | (simp [posI] at h2; simp [okSz]; intro _ h; omega))
            rw [h1, h2] at f1 ab
            simp [f9, op2, f1, ab, e]
          | true =>
            obtain ⟨a, rfl, ha⟩ := posI_eq h1
            obtain ⟨b, rfl, hb⟩ := posI_eq h2
            have e : okSz fs (.tup [.int a, .int b]) = keeps fs (a, b) := by simp [okSz, ha, hb]
            have e8 : callF tbl (k+2) 8 [.v (dFcts fs), .v (.tup [.int a, .int b])] M = _ := c8 (M := M) T k fs hfs (a, b)
            rw [h1, h2] at f1 ab
            simp [f9, op2, f1, ab, e, fld_ofacts, e8]
    · have h2 : ((xs.length : Int) == 2) = false := beqN (by omega)
      have e : okSz fs (.tup xs) = false := by
        match xs, hl with
        | [], _ => rfl
        | [_], _ => simp [okSz]
        | [_, _], hl => exact absurd rfl hl
        | _ :: _ :: _ :: _, _ => simp [okSz]
      simp [f9, op2, h2, e]
  | _ => cases hx
theorem c10 (T : TD tbl) (h9 : tbl 9 = some f9) (h10 : tbl 10 = some f10) (k : Nat) (ss : List Stp) (fs : List Fct) (hfs : ∀ f ∈ fs, fctOk f) (x : D) (hx : fits 20 x = true) : callF tbl (k+4) 10 [.v (dPlan ss fs), .v x] M = if okSz fs x = true then .ok (.v .non) M else .ex 3 .non M := by
  have e9 := c9 (M := M) T h9 k ss fs hfs x hx
  rw [cfl h10]
  cases h : okSz fs x <;> rw [h] at e9 <;> simp [f10, e9]
theorem okSz_P {fs : List Fct} {x : D} (h : okSz fs x = true) : ∃ s : Int × Int, x = dP s ∧ 0 < s.1 ∧ 0 < s.2 ∧ keeps fs s = true := by
  cases x with
  | tup xs =>
    match xs with
    | [] => simp [okSz] at h
    | [_] => simp [okSz] at h
    | [y, z] =>
      cases y <;> first | (simp [okSz] at h; done) | skip
      cases z <;> first | (simp [okSz] at h; done) | skip
      rename_i a b
      simp [okSz] at h
      exact ⟨(a, b), rfl, h.1.1, h.1.2, h.2⟩
    | _ :: _ :: _ :: _ => simp [okSz] at h
  | _ => simp [okSz] at h
theorem okSz_of {fs : List Fct} {s : Int × Int} (h1 : 0 < s.1) (h2 : 0 < s.2) : okSz fs (dP s) = keeps fs s := by
  simp [okSz, dP, h1, h2]
theorem c19 (T : TN tbl) (h19 : tbl 19 = some f19) (k : Nat) (ss : List Stp) (hf : StpsFit ss) (fs : List Fct) (hfs : ∀ f ∈ fs, fctOk f) (s : Int × Int) (h1 : 0 < s.1) (h2 : 0 < s.2) (hk : keeps fs s = true) : callF tbl (k+6) 19 [.v (dPlan ss fs), .v (dP s)] M = .ok (.v (.lst ((runOf ss s).shown.map dP))) M := by
  have e10 : ∀ N, callF tbl (k+5) 10 [.v (dPlan ss fs), .v (dP s)] N = _ := fun N => c10 (M := N) T.toTD T.h9 T.h10 (k+1) ss fs hfs (dP s) (fits_dP 19 s)
  simp only [okSz_of h1 h2, hk, if_true] at e10
  have e18 : ∀ N, callF tbl (k+5) 18 [.v (dPlan ss fs), .v (dP s)] N = _ := fun N => c18 T.toTD k ss hf.len hf.1 s h1 h2 fs
  rw [cfl h19]
  simp [f19, e10, e18, fldv_shown]
theorem c19x (T : TN tbl) (h19 : tbl 19 = some f19) (k : Nat) (ss : List Stp) (fs : List Fct) (hfs : ∀ f ∈ fs, fctOk f) (x : D) (hx : fits 20 x = true) (hk : okSz fs x = false) : callF tbl (k+6) 19 [.v (dPlan ss fs), .v x] M = .ex 3 .non M := by
  have e10 : ∀ N, callF tbl (k+5) 10 [.v (dPlan ss fs), .v x] N = _ := fun N => c10 (M := N) T.toTD T.h9 T.h10 (k+1) ss fs hfs x hx
  simp only [hk, Bool.false_eq_true, if_false] at e10
  rw [cfl h19]
  simp [f19, e10]
theorem fldv_bars (r : RunS) : fldW (.v (dRun r)) .bars M = some (.v (dKB dP r.bars)) := by simp [fldW, dRun, okF, look]
theorem fldv_fm (r : RunS) : fldW (.v (dRun r)) .fmarks M = some (.v (dKB dFM r.fm)) := by simp [fldW, dRun, okF, look]
def doneL (ss : List Stp) (r : RunS) : List D := (List.range ss.length).map fun i => .bl (lkB r.bars i).isSome
def nameL (ss : List Stp) (r : RunS) : List D := (List.range ss.length).map fun i => dFM ((lkB r.fm i).getD none)
theorem runOf_fm (ss : List Stp) (hf : StpsFit ss) (s : Int × Int) (h1 : 0 < s.1) (h2 : 0 < s.2) {i : Nat} (hi : i < ss.length) : ∃ m, lkB (runOf ss s).fm i = some m := by
  obtain ⟨a, b⟩ := runG_RI (ss := ss) (sz := s) hf.len h1 h2 (List.range ss.length) run0 run0_RI (ord_range ss).lt (ord_range ss).nd (fun _ _ h => nomatch h)
  have hk : (runOf ss s).fm.map (·.1) = List.range ss.length := by
    show (runG s ss run0 _).fm.map (·.1) = _
    rw [a.ks, b]; rfl
  have hm : i ∈ (runOf ss s).fm.map (·.1) := by rw [hk]; exact List.mem_range.mpr hi
  obtain ⟨⟨j, m⟩, hm2, rfl⟩ := List.mem_map.mp hm
  exact ⟨m, lkB_of (by rw [hk]; exact List.nodup_range) hm2⟩
theorem r1_nat (cl : Nat → List W → Mem → Rs W) (e : Env) (a : E) (n : Nat) (h : n ≤ 1000) (ha : evE cl a e M = .ok (.v (.int (n : Int))) M) : evIt cl (.r1 a) e M = .ok (false, (List.range n).map fun (i : Nat) => .int (i : Int)) M := by
  have c1 : (-1000000 : Int) < n := by omega
  have c2 : (n : Int) < 1000000 := by omega
  simp [ha, c1, c2]
theorem c20 (T : TN tbl) (h20 : tbl 20 = some f20) (k : Nat) (ss : List Stp) (hf : StpsFit ss) (fs : List Fct) (hfs : ∀ f ∈ fs, fctOk f) (s : Int × Int) (h1 : 0 < s.1) (h2 : 0 < s.2) (hk : keeps fs s = true) : callF tbl (k+6) 20 [.v (dPlan ss fs), .v (dP s)] M = .ok (.n (doneL ss (runOf ss s))) M := by
  have e10 : ∀ N, callF tbl (k+5) 10 [.v (dPlan ss fs), .v (dP s)] N = _ := fun N => c10 (M := N) T.toTD T.h9 T.h10 (k+1) ss fs hfs (dP s) (fits_dP 19 s)
  simp only [okSz_of h1 h2, hk, if_true] at e10
  have e18 : ∀ N, callF tbl (k+5) 18 [.v (dPlan ss fs), .v (dP s)] N = _ := fun N => c18 T.toTD k ss hf.len hf.1 s h1 h2 fs
  have h9 := hf.1
  have f1 : ∀ x0 x1 x3, lcS (callF tbl (k+5)) (.b2 .inn (.var 3) (.fld (.var 2) .bars)) (.v 3) .no ((List.range ss.length).map fun (i : Nat) => .int (i : Int)) [x0, x1, some (.v (dRun (runOf ss s))), x3] M = .ok (.n (doneL ss (runOf ss s))) M := by
    intro x0 x1 x3
    refine lcS_map _ _ _ ?_ (by simp; omega)
    intro i _
    simp [lcB, bindT, wipeE, Tg.own, fldv_bars, op2, in_code]
  have c1 : (-1000000 : Int) < ss.length := by omega
  have c2 : (ss.length : Int) < 1000000 := by omega
  rw [cfl h20]
  simp [f20, e10, e18, fld_osteps, len_stps, c1, c2, f1]
theorem c20x (T : TN tbl) (h20 : tbl 20 = some f20) (k : Nat) (ss : List Stp) (fs : List Fct) (hfs : ∀ f ∈ fs, fctOk f) (x : D) (hx : fits 20 x = true) (hk : okSz fs x = false) : callF tbl (k+6) 20 [.v (dPlan ss fs), .v x] M = .ex 3 .non M := by
  have e10 : ∀ N, callF tbl (k+5) 10 [.v (dPlan ss fs), .v x] N = _ := fun N => c10 (M := N) T.toTD T.h9 T.h10 (k+1) ss fs hfs x hx
  simp only [hk, Bool.false_eq_true, if_false] at e10
  rw [cfl h20]
  simp [f20, e10]
theorem c21 (T : TN tbl) (k : Nat) (ss : List Stp) (hf : StpsFit ss) (fs : List Fct) (s : Int × Int) (h1 : 0 < s.1) (h2 : 0 < s.2) : callF tbl (k+6) 21 [.v (dPlan ss fs), .v (dP s)] M = .ok (.n (nameL ss (runOf ss s))) M := by
  have e18 : ∀ N, callF tbl (k+5) 18 [.v (dPlan ss fs), .v (dP s)] N = _ := fun N => c18 T.toTD k ss hf.len hf.1 s h1 h2 fs
  have h9 := hf.1
  have f1 : ∀ x0 x1 x3, lcS (callF tbl (k+5)) (.idx (.fld (.var 2) .fmarks) (.var 3)) (.v 3) .no ((List.range ss.length).map fun (i : Nat) => .int (i : Int)) [x0, x1, some (.v (dRun (runOf ss s))), x3] M = .ok (.n (nameL ss (runOf ss s))) M := by
    intro x0 x1 x3
    refine lcS_map _ _ _ ?_ (by simp; omega)
    intro i hi
    obtain ⟨m, hm⟩ := runOf_fm ss hf s h1 h2 (List.mem_range.mp hi)
    simp [lcB, bindT, wipeE, Tg.own, fldv_fm, idx_code, hm]
  have c1 : (-1000000 : Int) < ss.length := by omega
  have c2 : (ss.length : Int) < 1000000 := by omega
  rw [cfl T.h21]
  simp [f21, e18, fld_osteps, len_stps, c1, c2, f1]
theorem c22 (T : TN tbl) (h22 : tbl 22 = some f22) (k : Nat) (ss : List Stp) (hf : StpsFit ss) (fs : List Fct) (hfs : ∀ f ∈ fs, fctOk f) (s : Int × Int) (h1 : 0 < s.1) (h2 : 0 < s.2) (hk : keeps fs s = true) : callF tbl (k+7) 22 [.v (dPlan ss fs), .v (dP s)] M = .ok (.v (.lst (nameL ss (runOf ss s)))) M := by
  have e10 : ∀ N, callF tbl (k+6) 10 [.v (dPlan ss fs), .v (dP s)] N = _ := fun N => c10 (M := N) T.toTD T.h9 T.h10 (k+2) ss fs hfs (dP s) (fits_dP 19 s)
  simp only [okSz_of h1 h2, hk, if_true] at e10
  have e21 : ∀ N, callF tbl (k+6) 21 [.v (dPlan ss fs), .v (dP s)] N = _ := fun N => c21 T k ss hf fs s h1 h2
  rw [cfl h22]
  simp [f22, e10, e21]
theorem c22x (T : TN tbl) (h22 : tbl 22 = some f22) (k : Nat) (ss : List Stp) (fs : List Fct) (hfs : ∀ f ∈ fs, fctOk f) (x : D) (hx : fits 20 x = true) (hk : okSz fs x = false) : callF tbl (k+7) 22 [.v (dPlan ss fs), .v x] M = .ex 3 .non M := by
  have e10 : ∀ N, callF tbl (k+6) 10 [.v (dPlan ss fs), .v x] N = _ := fun N => c10 (M := N) T.toTD T.h9 T.h10 (k+2) ss fs hfs x hx
  simp only [hk, Bool.false_eq_true, if_false] at e10
  rw [cfl h22]
  simp [f22, e10]
end
/-! short marks -/
theorem marksAt_len (bs : Bars) (p : Int) : (marksAt bs p).length ≤ 2 * bs.length := by
  have h : ∀ is : List Nat, (is.flatMap fun i => match lkB bs i with
    | some b => markOf i p b
    | none => []).length ≤ 2 * is.length := by
    intro is
    induction is with
    | nil => simp
    | cons i is ih =>
      rw [List.flatMap_cons, List.length_append, List.length_cons]
      rw [show 2 * (is.length + 1) = 2 + 2 * is.length from by omega]
      refine Nat.add_le_add ?_ ih
      cases lkB bs i with
      | none => simp
      | some b => simp only [markOf]; split <;> split <;> simp
  have := h (srtK bs)
  have e : (srtK bs).length = bs.length := by rw [srtK, List.length_mergeSort, List.length_map]
  rw [e] at this; exact this
def FI (r : RunS) : Prop := ∀ b ∈ r.fm, ∀ ms, b.2 = some ms → ms.length ≤ 100
theorem runStep_FI {r : RunS} (hr : RI r) (h : FI r) (hb : r.ho.length ≤ 40) (sz : Int × Int) (i : Nat) (s : Stp) : FI (runStep sz r i s) := by
  have hm : ∀ ms, fmOf r.bars (placeOf r.shown r.bars s.nm) s.nm = some ms → ms.length ≤ 100 := by
    intro ms hms
    unfold fmOf at hms
    cases hp : placeOf r.shown r.bars s.nm with
    | none => rw [hp] at hms; cases hms
    | some p =>
      rw [hp] at hms
      simp only [Option.some.injEq] at hms
      rw [← hms]
      have := marksAt_len r.bars p
      have := hr.bl
      split
      · simp
      · omega
  have h1 : FI (step1 r i s) := by
    intro b hb' ms e
    simp only [step1, List.mem_append] at hb'
    rcases hb' with hb' | hb'
    · exact h b hb' ms e
    · simp at hb'; subst hb'; exact hm ms e
  unfold runStep
  cases placeOf r.shown r.bars s.nm with
  | none => exact h1
  | some p => exact h1
theorem runG_FI {ss : List Stp} {sz : Int × Int} (hl : ∀ s ∈ ss, lenOk s.len) (h1 : 0 < sz.1) (h2 : 0 < sz.2) : ∀ (is : List Nat) (r : RunS), RI r → FI r → (∀ i ∈ is, i < ss.length) → is.Nodup → (∀ i ∈ is, i ∉ r.ho.map (·.1)) → r.ho.length + is.length ≤ 40 → FI (runG sz ss r is)
  | [], r, _, hf, _, _, _, _ => hf
  | i :: is, r, hr, hf, a, b, c, hlen => by
    have hi : i < ss.length := a i (by simp)
    have hs : ss[i]? = some ss[i] := by simp [hi]
    rw [List.length_cons] at hlen
    rw [runG, hs]
    obtain ⟨q1, q2⟩ := runStep_RI hr (s := ss[i]) (hl _ (List.getElem_mem hi)) h1 h2 (c i (by simp))
    have hq := congrArg List.length q2
    simp at hq
    exact runG_FI hl h1 h2 is (runStep sz r i ss[i]) q1 (runStep_FI hr hf (by omega) sz i _) (fun j hj => a j (by simp [hj])) (List.nodup_cons.mp b).2 (by
      intro j hj; rw [q2, List.mem_append]; rintro (h | h)
      · exact c j (by simp [hj]) h
      · simp at h; subst h; exact (List.nodup_cons.mp b).1 hj) (by omega)
theorem runOf_FI (ss : List Stp) (hf : StpsFit ss) (s : Int × Int) (h1 : 0 < s.1) (h2 : 0 < s.2) : FI (runOf ss s) :=
  runG_FI hf.len h1 h2 _ run0 run0_RI (fun _ h => nomatch h) (ord_range ss).lt (ord_range ss).nd (fun _ _ h => nomatch h) (by have := hf.1; simp [run0]; omega)
theorem sm_fm (m : Option Marks) (h : ∀ ms, m = some ms → ms.length ≤ 100) : sm 2 (dFM m) = true := by
  cases m with
  | none => rfl
  | some ms => exact sm_tup dMark ms (by have := h ms rfl; omega) (fun m _ => sm_mark 0 m)
theorem sm_names (ss : List Stp) (hf : StpsFit ss) (s : Int × Int) (h1 : 0 < s.1) (h2 : 0 < s.2) : sm 3 (.lst (nameL ss (runOf ss s))) = true := by
  have h9 := hf.1
  refine sm_lst _ _ (by simp; omega) ?_
  intro i hi
  obtain ⟨m, hm⟩ := runOf_fm ss hf s h1 h2 (List.mem_range.mp hi)
  rw [hm]
  exact sm_fm m (runOf_FI ss hf s h1 h2 _ (lkB_mem hm))
end P
end Bf

set_option Elab.async false
set_option linter.all false
namespace Bf
namespace P
open PySem
/-! ### partings -/
structure TT (tbl : Nat → Option FD) : Prop extends TS tbl where
  h36 : tbl 36 = some f36
  h37 : tbl 37 = some f37
theorem eqB_sW {x y : PySem.Str} (h : (x == y) = false) (h2 : (y == x) = false) (a b : Bool) : eqB (sW a x y) (sW b x y) = decide (a = b) := by
  cases a <;> cases b <;> simp [sW, eqB_str, h, h2]
theorem eqB_Fct (a b : Fct) : eqB (dFct a) (dFct b) = decide (a = b) := by
  have e : eqB (dFct a) (dFct b) = (eqB (sW a.less "less" "same") (sW b.less "less" "same") && (eqB (dP a.one) (dP b.one) && (eqB (dP a.other) (dP b.other) && true))) := by
    simp only [dFct, eqB, eqBs]
  rw [e, eqB_sW (by decide +kernel) (by decide +kernel), eqB_dP, eqB_dP]
  rcases a with ⟨a1, a2, a3⟩; rcases b with ⟨b1, b2, b3⟩
  simp only [Fct.mk.injEq, Bool.and_true]
  by_cases h1 : a1 = b1 <;> by_cases h2 : a2 = b2 <;> by_cases h3 : a3 = b3 <;> simp [h1, h2, h3]
theorem fits_Fct (a : Fct) : fits 18 (dFct a) = true := by
  obtain ⟨_, _, g3, g4⟩ := strOkT
  have h1 := fits_dP 16 a.one
  have h2 := fits_dP 16 a.other
  have h3 := fits_sW 17 a.less g3 g4
  show [sW a.less "less" "same", dP a.one, dP a.other].all (fits 17) = true
  simp [h1, h2, h3]
theorem eqD_fcts (xs ys : List Fct) : eqD (dFcts xs) (dFcts ys) = some (decide (xs = ys)) := by
  have f : ∀ zs : List Fct, fits 20 (dFcts zs) = true := fun zs => by
    show (zs.map dFct).all (fits 19) = true
    rw [List.all_map, List.all_eq_true]; intro x _
    obtain ⟨_, _, g3, g4⟩ := strOkT
    have h1 := fits_dP 17 x.one
    have h2 := fits_dP 17 x.other
    have h3 := fits_sW 18 x.less g3 g4
    show [sW x.less "less" "same", dP x.one, dP x.other].all (fits 18) = true
    simp [h1, h2, h3]
  have : eqD (dFcts xs) (dFcts ys) = if (fits 20 (dFcts xs) && fits 20 (dFcts ys)) = true then some (eqB (dFcts xs) (dFcts ys)) else none := rfl
  rw [this, f, f]
  show some (eqB (.tup (xs.map dFct)) (.tup (ys.map dFct))) = _
  rw [eqB, eqBs_code dFct eqB_Fct]
def partS (s1 s2 : List Stp) (zs : List (Int × Int)) : Option (Int × Int) := zs.find? fun z => decide ((runOf s1 z).shown ≠ (runOf s2 z).shown)
section
variable {tbl : Nat → Option FD} {M : Mem}
theorem l36 (T : TT tbl) (k n0 : Nat) (s1 s2 : List Stp) (hf1 : StpsFit s1) (hf2 : StpsFit s2) (fs gs : List Fct) : ∀ (zs : List (Int × Int)), (∀ z ∈ zs, 0 < z.1 ∧ 0 < z.2) → ∀ x2 : Option W, ∃ y2 : Option W, ∀ M : Mem,
    loopS (callF tbl (k+5)) n0 (.v 2) f36_b0 (zs.map dP) [some (.v (dPlan s1 fs)), some (.v (dPlan s2 gs)), x2] M = match partS s1 s2 zs with
      | none => .nx [some (.v (dPlan s1 fs)), some (.v (dPlan s2 gs)), y2] M
      | some z => .rt (.v (dP z)) M
  | [], _, x2 => ⟨x2, fun M => rfl⟩
  | z :: zs, h, x2 => by
    have hz := h z (by simp)
    obtain ⟨y2, ih⟩ := l36 T k n0 s1 s2 hf1 hf2 fs gs zs (fun a ha => h a (by simp [ha])) (some (.v (dP z)))
    refine ⟨y2, ?_⟩
    intro M
    have e18 : ∀ N, callF tbl (k+5) 18 [.v (dPlan s1 fs), .v (dP z)] N = _ := fun N => c18 T.toTD k s1 hf1.len hf1.1 z hz.1 hz.2 fs
    have e18b : ∀ N, callF tbl (k+5) 18 [.v (dPlan s2 gs), .v (dP z)] N = _ := fun N => c18 T.toTD k s2 hf2.len hf2.1 z hz.1 hz.2 gs
    have eq := eqD_pcs (runOf s1 z).shown (runOf s2 z).shown
    have es : partS s1 s2 (z :: zs) = if decide ((runOf s1 z).shown ≠ (runOf s2 z).shown) = true then some z else partS s1 s2 zs := by
      unfold partS; rw [List.find?_cons]; split <;> simp_all
    rw [List.map_cons, es]
    by_cases hd : (runOf s1 z).shown = (runOf s2 z).shown
    · rw [decide_eq_true hd] at eq
      have hb : evSs (callF tbl (k+5)) n0 f36_b0 [some (.v (dPlan s1 fs)), some (.v (dPlan s2 gs)), some (.v (dP z))] M = .nx [some (.v (dPlan s1 fs)), some (.v (dPlan s2 gs)), some (.v (dP z))] M := by
        simp [f36_b0, e18, e18b, fldv_shown, op2, eq]
      rw [loopS_nx (v2 := _) (by rfl) hb, ih M, if_neg (by simp [hd])]
    · rw [decide_eq_false hd] at eq
      have hb : evSs (callF tbl (k+5)) n0 f36_b0 [some (.v (dPlan s1 fs)), some (.v (dPlan s2 gs)), some (.v (dP z))] M = .rt (.v (dP z)) M := by
        simp [f36_b0, e18, e18b, fldv_shown, op2, eq]
      rw [loopS_rt (v2 := _) (by rfl) hb, if_pos (by simp [hd])]
theorem c36 (T : TT tbl) (k : Nat) (s1 s2 : List Stp) (hf1 : StpsFit s1) (hf2 : StpsFit s2) (fs : List Fct) (hfs : ∀ f ∈ fs, fctOk f) : callF tbl (k+6) 36 [.v (dPlan s1 fs), .v (dPlan s2 fs)] M = .ok (.v (dOS (partS s1 s2 (allS fs (4 * max 1 (s1.length + s2.length)))))) M := by
  have g1 := hf1.1
  have g2 := hf2.1
  obtain ⟨y2, ih⟩ := l36 T k M.length s1 s2 hf1 hf2 fs fs (allS fs (4 * max 1 (s1.length + s2.length))) (fun z hz => allS_pos hz) none
  have e23 : ∀ N, callF tbl (k+5) 23 [.v (dPlan s1 fs), .v (.int ((4 * max 1 (s1.length + s2.length) : Nat) : Int))] N = _ := fun N => c23 T.toTD T.h23 (k+2) s1 fs hfs _ (by omega)
  have e26 : ∀ N, callF tbl (k+5) 26 [.v (.int ((s1.length + s2.length : Nat) : Int))] N = _ := fun N => c26 T.h26 (k+4) (s1.length + s2.length)
  have e2 : (s1.length : Int) + (s2.length : Int) = ((s1.length + s2.length : Nat) : Int) := by omega
  have ef := eqD_fcts fs fs
  generalize 4 * max 1 (s1.length + s2.length) = m at ih e23 e26 ⊢
  generalize s1.length + s2.length = q at e26 e2
  simp at ef
  rw [cfl T.h36]
  cases hs : partS s1 s2 (allS fs m) with
  | none => rw [hs] at ih; simp [f36, fld_ofacts, fld_osteps, len_stps, op2, ef, e2, e26, e23, dSz, ih M, dOS]
  | some z => rw [hs] at ih; simp [f36, fld_ofacts, fld_osteps, len_stps, op2, ef, e2, e26, e23, dSz, ih M, dOS]
theorem c36x (T : TT tbl) (k : Nat) (s1 s2 : List Stp) (fs gs : List Fct) (h : fs ≠ gs) : callF tbl (k+1) 36 [.v (dPlan s1 fs), .v (dPlan s2 gs)] M = .ex 4 .non M := by
  have ef := eqD_fcts fs gs
  rw [decide_eq_false h] at ef
  rw [cfl T.h36]
  simp [f36, fld_ofacts, op2, ef]
theorem c37 (T : TT tbl) (k : Nat) (s1 s2 : List Stp) (hf1 : StpsFit s1) (hf2 : StpsFit s2) (fs : List Fct) (hfs : ∀ f ∈ fs, fctOk f) : callF tbl (k+7) 37 [.v (dPlan s1 fs), .v (dPlan s2 fs)] M = .ok (.v (.bl (partS s1 s2 (allS fs (4 * max 1 (s1.length + s2.length)))).isNone)) M := by
  have e36 : ∀ N, callF tbl (k+6) 36 [.v (dPlan s1 fs), .v (dPlan s2 fs)] N = _ := fun N => c36 T k s1 s2 hf1 hf2 fs hfs
  generalize partS s1 s2 (allS fs (4 * max 1 (s1.length + s2.length))) = o at e36 ⊢
  rw [cfl T.h37]
  cases o <;> simp [dOS, dP] at e36 <;> simp [f37, e36, op2, isNonD]
end
end P
end Bf

set_option Elab.async false
set_option linter.all false
namespace Bf
namespace P
open PySem
/-! ### names that stray -/
structure TY (tbl : Nat → Option FD) : Prop extends TN tbl where
  h23 : tbl 23 = some f23
  h26 : tbl 26 = some f26
  h27 : tbl 27 = some f27
  h28 : tbl 28 = some f28
  h29 : tbl 29 = some f29
  h30 : tbl 30 = some f30
  h31 : tbl 31 = some f31
  h32 : tbl 32 = some f32
inductive W3 where | none | other | gone
  deriving DecidableEq
def wS : W3 → PySem.Str
  | .none => "none"
  | .other => "other"
  | .gone => "gone"
theorem wS_inj {a b : W3} (h : wS a = wS b) : a = b := by cases a <;> cases b <;> first | rfl | exact absurd h (by decide +kernel)
abbrev Mk := Nat × Bool
theorem eqB_mark (a b : Mk) : eqB (dMark a) (dMark b) = decide (a = b) := by
  have e : eqB (dMark a) (dMark b) = (eqB (.int a.1) (.int b.1) && (eqB (sW a.2 "near" "far") (sW b.2 "near" "far") && true)) := by simp only [dMark, eqB, eqBs]
  rw [e, eqB_sW (by decide +kernel) (by decide +kernel), eqB_int]
  rcases a with ⟨a1, a2⟩; rcases b with ⟨b1, b2⟩
  by_cases h1 : a1 = b1 <;> by_cases h2 : a2 = b2 <;> simp [h1, h2] <;> omega
theorem fits_marks (ms : Marks) : fits 20 (.lst (ms.map dMark)) = true := fits_lst (fits_all dMark ms fun x _ => fits_mark 18 x)
theorem inB_marks (m : Mk) (ms : Marks) : inB (dMark m) (dMarks ms) = some (decide (m ∈ ms)) := by
  have h1 := fits_marks ms
  have h2 := fits_mark 19 m
  show (if fits 20 (dMark m) && fits 20 (.lst (ms.map dMark)) then some ((ms.map dMark).any fun z => eqB z (dMark m)) else none) = _
  rw [h1, h2, List.any_map]
  simp only [Bool.and_self, if_true, Option.some.injEq]
  rw [Bool.eq_iff_iff, List.any_eq_true, decide_eq_true_eq]
  constructor
  · rintro ⟨x, hx, e⟩
    simp only [Function.comp, eqB_mark, decide_eq_true_eq] at e
    rw [← e]; exact hx
  · intro h; exact ⟨m, h, by simp [eqB_mark]⟩
def wordM (o : Option Marks) (h : List Marks) (m : Mk) : Option W3 := match o with
  | none => some .none
  | some ms => if m ∈ ms then none else if h.any (fun x => decide (m ∈ x)) then some .other else some .gone
def wordOf (r : RunS) (i : Nat) (m : Mk) : Option W3 := wordM ((lkB r.fm i).getD none) ((lkB r.ho i).getD []) m
def dW : Option W3 → D
  | none => .non
  | some w => .str (wS w)
/-! bounds -/
def HI (r : RunS) : Prop := ∀ b ∈ r.ho, b.2.length ≤ 100000
theorem runStep_HI {r : RunS} (hr : RI r) (h : HI r) (hb : r.ho.length ≤ 12) (sz : Int × Int) (i : Nat) (s : Stp) : HI (runStep sz r i s) := by
  have hl : ((faces r.shown).map (marksAt r.bars)).length ≤ 100000 := by
    rw [List.length_map, faces_len]
    have h1 := hr.len
    have : 2 ^ r.ho.length ≤ 2 ^ 12 := Nat.pow_le_pow_right (by decide) hb
    omega
  have h1 : HI (step1 r i s) := by
    intro b hb'
    simp only [step1, List.mem_append] at hb'
    rcases hb' with hb' | hb'
    · exact h b hb'
    · simp at hb'; subst hb'; exact hl
  unfold runStep
  cases placeOf r.shown r.bars s.nm with
  | none => exact h1
  | some p => exact h1
theorem runG_HI {ss : List Stp} {sz : Int × Int} (hl : ∀ s ∈ ss, lenOk s.len) (h1 : 0 < sz.1) (h2 : 0 < sz.2) : ∀ (is : List Nat) (r : RunS), RI r → HI r → (∀ i ∈ is, i < ss.length) → is.Nodup → (∀ i ∈ is, i ∉ r.ho.map (·.1)) → r.ho.length + is.length ≤ 12 → HI (runG sz ss r is)
  | [], r, _, hf, _, _, _, _ => hf
  | i :: is, r, hr, hf, a, b, c, hlen => by
    have hi : i < ss.length := a i (by simp)
    have hs : ss[i]? = some ss[i] := by simp [hi]
    rw [List.length_cons] at hlen
    rw [runG, hs]
    obtain ⟨q1, q2⟩ := runStep_RI hr (s := ss[i]) (hl _ (List.getElem_mem hi)) h1 h2 (c i (by simp))
    have hq := congrArg List.length q2
    simp at hq
    exact runG_HI hl h1 h2 is (runStep sz r i ss[i]) q1 (runStep_HI hr hf (by omega) sz i _) (fun j hj => a j (by simp [hj])) (List.nodup_cons.mp b).2 (by
      intro j hj; rw [q2, List.mem_append]; rintro (h | h)
      · exact c j (by simp [hj]) h
      · simp at h; subst h; exact (List.nodup_cons.mp b).1 hj) (by omega)
theorem runOf_ho (ss : List Stp) (hf : StpsFit ss) (s : Int × Int) (h1 : 0 < s.1) (h2 : 0 < s.2) {i : Nat} (hi : i < ss.length) : ∃ h, lkB (runOf ss s).ho i = some h ∧ h.length ≤ 100000 := by
  obtain ⟨a, b⟩ := runG_RI (ss := ss) (sz := s) hf.len h1 h2 (List.range ss.length) run0 run0_RI (ord_range ss).lt (ord_range ss).nd (fun _ _ h => nomatch h)
  have hk : (runOf ss s).ho.map (·.1) = List.range ss.length := by
    show (runG s ss run0 _).ho.map (·.1) = _
    rw [b]; rfl
  have hm : i ∈ (runOf ss s).ho.map (·.1) := by rw [hk]; exact List.mem_range.mpr hi
  obtain ⟨⟨j, m⟩, hm2, rfl⟩ := List.mem_map.mp hm
  have hI : HI (runOf ss s) := runG_HI hf.len h1 h2 _ run0 run0_RI (fun _ h => nomatch h) (ord_range ss).lt (ord_range ss).nd (fun _ _ h => nomatch h) (by have := hf.1; simp [run0]; omega)
  exact ⟨m, lkB_of (by rw [hk]; exact List.nodup_range) hm2, hI _ hm2⟩
/-! what names mean -/
def tellI (r : RunS) (i : Nat) : Option (Nat × Mk) := match (lkB r.fm i).getD none with
  | some (m :: _) => some (i, m)
  | _ => none
def tell (ss : List Stp) (r : RunS) : List (Nat × Mk) := (List.range ss.length).filterMap (tellI r)
theorem tellI_fst {r : RunS} {i : Nat} {b : Nat × Mk} (h : tellI r i = some b) : b.1 = i := by
  unfold tellI at h
  split at h
  · simp at h; rw [← h]
  · cases h
theorem enum_range' (g : Nat → D) : ∀ n j : Nat, enumD j ((List.range' j n).map g) = (List.range' j n).map fun (i : Nat) => .tup [.int (i : Int), g i]
  | 0, j => rfl
  | n + 1, j => by rw [List.range'_succ, List.map_cons, List.map_cons, enumD, enum_range' g n (j + 1)]
theorem enum_range (g : Nat → D) (n : Nat) : enumD 0 ((List.range n).map g) = (List.range n).map fun (i : Nat) => .tup [.int (i : Int), g i] := by
  rw [List.range_eq_range']; exact enum_range' g n 0
theorem eqD_marks0 (ms : Marks) : eqD (dMarks ms) (.tup []) = some (decide (ms = [])) := by
  cases ms with
  | nil => decide +kernel
  | cons m ms =>
    have := eqD_tn (dMark m) (ms.map dMark) (fits_marks (m :: ms))
    rw [show dMarks (m :: ms) = .tup (dMark m :: ms.map dMark) from rfl, this]; simp
theorem ixM0 (m : Mk) (ms : Marks) : idxD (dMarks (m :: ms)) (.int 0) = some (dMark m) := ixD_t (dMark m :: ms.map dMark) 0
theorem fldv_ho {M : Mem} (r : RunS) : fldW (.v (dRun r)) .holders M = some (.v (dKB dHo r.ho)) := by simp [fldW, dRun, okF, look]
section
variable {tbl : Nat → Option FD} {M : Mem}
theorem b27 (cl : Nat → List W → Mem → Rs W) (n0 : Nat) (a b : Option W) (r : RunS) (i : Nat) (acc : List (Nat × Mk)) (ha : ∀ x ∈ acc, x.1 < i) (hl : acc.length < 1000) (M : Mem) :
    evSs cl n0 f27_b0 [a, b, some (.c M.length), some (.v (.int i)), some (.v (dFM ((lkB r.fm i).getD none)))] (M ++ [dKB dMark acc]) = .nx [a, b, some (.c M.length), some (.v (.int i)), some (.v (dFM ((lkB r.fm i).getD none)))] (M ++ [dKB dMark (acc ++ (tellI r i).toList)]) := by
  unfold tellI
  generalize (lkB r.fm i).getD none = o
  cases o with
  | none => simp [f27_b0, dFM, op2, isNonD]
  | some ms =>
    have hn : isNonD (dMarks ms) = false := rfl
    have e0 := eqD_marks0 ms
    cases ms with
    | nil => simp at e0; simp [f27_b0, dFM, op2, hn, e0]
    | cons m ms =>
      have hp := putD_new dMark acc i m (fun x hx => by have := ha x hx; omega) hl
      have ix := ixM0 m ms
      simp at e0
      simp [f27_b0, dFM, op2, hn, e0, ix, hp]
theorem l27 (cl : Nat → List W → Mem → Rs W) (n0 : Nat) (a b : Option W) (r : RunS) : ∀ (n j : Nat) (acc : List (Nat × Mk)), (∀ x ∈ acc, x.1 < j) → acc.length + n ≤ 1000 → ∀ x3 x4 : Option W, ∃ y3 y4 : Option W, ∀ M : Mem,
    loopS cl n0 (.t [3, 4]) f27_b0 ((List.range' j n).map fun (i : Nat) => .tup [.int i, dFM ((lkB r.fm i).getD none)]) [a, b, some (.c M.length), x3, x4] (M ++ [dKB dMark acc]) = .nx [a, b, some (.c M.length), y3, y4] (M ++ [dKB dMark (acc ++ (List.range' j n).filterMap (tellI r))])
  | 0, j, acc, _, _, x3, x4 => ⟨x3, x4, fun M => by simp [loopS_nil]⟩
  | n + 1, j, acc, ha, hl, x3, x4 => by
    have h1 : (tellI r j).toList.length ≤ 1 := by cases tellI r j <;> simp
    obtain ⟨y3, y4, ih⟩ := l27 cl n0 a b r n (j + 1) (acc ++ (tellI r j).toList) (by
      intro x hx
      rcases List.mem_append.mp hx with hx | hx
      · have := ha x hx; omega
      · have : tellI r j = some x := by cases h : tellI r j <;> rw [h] at hx <;> simp at hx; rw [hx]
        have := tellI_fst this; omega) (by rw [List.length_append]; omega) (some (.v (.int j))) (some (.v (dFM ((lkB r.fm j).getD none))))
    refine ⟨y3, y4, ?_⟩
    intro M
    rw [List.range'_succ, List.map_cons, loopS_nx (v2 := _) (by rfl) (b27 cl n0 a b r j acc ha (by omega) M), ih M, List.filterMap_cons, List.append_assoc]
    cases tellI r j <;> rfl
theorem c27 (T : TY tbl) (k : Nat) (ss : List Stp) (hf : StpsFit ss) (fs : List Fct) (s : Int × Int) (h1 : 0 < s.1) (h2 : 0 < s.2) : callF tbl (k+7) 27 [.v (dPlan ss fs), .v (dP s)] M = .ok (.v (dKB dMark (tell ss (runOf ss s)))) M := by
  have h9 := hf.1
  have e21 : ∀ N, callF tbl (k+6) 21 [.v (dPlan ss fs), .v (dP s)] N = _ := fun N => c21 T.toTN k ss hf fs s h1 h2
  obtain ⟨y3, y4, ih⟩ := l27 (callF tbl (k+6)) M.length (some (.v (dPlan ss fs))) (some (.v (dP s))) (runOf ss s) ss.length 0 [] (fun x h => nomatch h) (by simp; omega) none none
  have ih := ih M
  rw [← List.range_eq_range', List.nil_append] at ih
  have en := enum_range (fun i => dFM ((lkB (runOf ss s).fm i).getD none)) ss.length
  have d0 : dKB dMark ([] : List (Nat × Mk)) = .dK [] [] := rfl
  rw [d0] at ih
  rw [cfl T.h27]
  simp [f27, e21, nameL, en, ih, tell]
theorem anyBl (m : Mk) (h : List Marks) : bi .any [.lst (h.map fun x => .bl (decide (m ∈ x)))] = some (.bl (h.any fun x => decide (m ∈ x))) := by
  have : allBl (h.map fun x => D.bl (decide (m ∈ x))) = some (h.map fun x => decide (m ∈ x)) := by
    have := allBl_map (h.map fun x => decide (m ∈ x)); rw [List.map_map] at this; exact this
  rw [bi_any, this]; simp [List.any_map, Function.comp_def]
theorem c28 (T : TY tbl) (k : Nat) (r : RunS) (i : Nat) (m : Mk) {o : Option Marks} {h : List Marks} (ho : lkB r.fm i = some o) (hh : lkB r.ho i = some h) (hl : h.length ≤ 100000) : callF tbl (k+1) 28 [.v (dRun r), .v (.int i), .v (dMark m)] M = .ok (.v (dW (wordOf r i m))) M := by
  have ew : wordOf r i m = wordM o h m := by rw [wordOf, ho, hh]; rfl
  rw [ew, cfl T.h28]
  cases o with
  | none => simp [f28, fldv_fm, idx_code, ho, dFM, op2, isNonD, wordM, dW, wS]
  | some ms =>
    have hn : isNonD (dMarks ms) = false := rfl
    have im := inB_marks m ms
    by_cases hm : m ∈ ms
    · simp [hm] at im
      simp [f28, fldv_fm, idx_code, ho, dFM, op2, hn, im, wordM, hm, dW]
    · simp [hm] at im
      have f1 : ∀ x3 x4, lcS (callF tbl k) (.b2 .inn (.var 2) (.var 4)) (.v 4) .no (h.map dMarks) [some (.v (dRun r)), some (.v (.int i)), some (.v (dMark m)), x3, x4] M = .ok (.n (h.map fun x => .bl (decide (m ∈ x)))) M := by
        intro x3 x4
        refine lcS_map _ _ _ ?_ (by simp; omega)
        intro x _
        have := inB_marks m x
        simp [lcB, bindT, wipeE, Tg.own, op2, this]
      have ab := anyBl m h
      have hi : items (dHo h) = some (h.map dMarks) := rfl
      cases ha : h.any fun x => decide (m ∈ x) with
      | true => rw [ha] at ab; simp [f28, fldv_fm, fldv_ho, idx_code, ho, hh, dFM, op2, hn, im, wordM, hm, dW, hi, f1, ab, ha, wS, -bi_any]
      | false => rw [ha] at ab; simp [f28, fldv_fm, fldv_ho, idx_code, ho, hh, dFM, op2, hn, im, wordM, hm, dW, hi, f1, ab, ha, wS, -bi_any]
end
end P
end Bf

set_option Elab.async false
set_option linter.all false
namespace Bf
namespace P
open PySem
/-! ### models -/
structure TM (tbl : Nat → Option FD) : Prop extends TN tbl where
  h44 : tbl 44 = some f44
  h45 : tbl 45 = some f45
  h46 : tbl 46 = some f46
  h47 : tbl 47 = some f47
  h48 : tbl 48 = some f48
  h49 : tbl 49 = some f49
  h50 : tbl 50 = some f50
  h60 : tbl 60 = some f60
  h61 : tbl 61 = some f61
@[simp] theorem tkA (x : D) (M : Mem) : (M ++ [x]).take (M.length + 1) = M ++ [x] := List.take_of_length_le (by simp)
@[simp] theorem toVf (M : Mem) (i : Nat) (g : Fd) : toV (.ok (.f i g) M) = .ok (.f i g) M := (rfl)
@[simp] theorem sqab1 : ((Str.ofString "a") == (Str.ofString "a")) = true := by decide +kernel
@[simp] theorem sqab2 : ((Str.ofString "b") == (Str.ofString "a")) = false := by decide +kernel
def dMod (ss : List Stp) (fs : List Fct) (s : Int × Int) (past : List (Int × Int)) : D := .ins 12 [.pused, .snow, .past] [dPlan ss fs, dP s, .lst (past.map dP)]
section
variable {tbl : Nat → Option FD} {M : Mem} {i : Nat} {ss : List Stp} {fs : List Fct} {s : Int × Int} {past : List (Int × Int)}
theorem fm_pused (h : M[i]? = some (dMod ss fs s past)) : fldW (.c i) .pused M = some (.v (dPlan ss fs)) := by simp [fldW, h, dMod, okF, owned, look]
theorem fm_snow (h : M[i]? = some (dMod ss fs s past)) : fldW (.c i) .snow M = some (.v (dP s)) := by simp [fldW, h, dMod, okF, owned, look]
theorem fm_past (h : M[i]? = some (dMod ss fs s past)) : fldW (.c i) .past M = some (.f i .past) := by simp [fldW, h, dMod, okF, owned, look]
theorem get_past (h : M[i]? = some (dMod ss fs s past)) : W.get M (.f i .past) = some (.lst (past.map dP)) := by simp only [W.get, h]; simp [dMod, look]
theorem set_snow (h : M[i]? = some (dMod ss fs s past)) (z : Int × Int) : fputM (.c i) .snow (dP z) M = some (M.set i (dMod ss fs z past)) := by simp [fputM, h, dMod, okF, put]
theorem set_past (h : M[i]? = some (dMod ss fs s past)) (p : List (Int × Int)) : W.set M (.lst (p.map dP)) (.f i .past) = some (M.set i (dMod ss fs s p)) := by simp [W.set, h, dMod, put]
theorem c60 (T : TM tbl) (k : Nat) (hf : StpsFit ss) (hfs : ∀ f ∈ fs, fctOk f) (h1 : 0 < s.1) (h2 : 0 < s.2) (hk : keeps fs s = true) : callF tbl (k+6) 60 [.v (dPlan ss fs), .v (dP s)] M = .ok (.v (.lst ((runOf ss s).shown.map dP))) M := by
  have e10 : ∀ N, callF tbl (k+5) 10 [.v (dPlan ss fs), .v (dP s)] N = _ := fun N => c10 (M := N) T.toTD T.h9 T.h10 (k+1) ss fs hfs (dP s) (fits_dP 19 s)
  simp only [okSz_of h1 h2, hk, if_true] at e10
  have e18 : ∀ N, callF tbl (k+5) 18 [.v (dPlan ss fs), .v (dP s)] N = _ := fun N => c18 T.toTD k ss hf.len hf.1 s h1 h2 fs
  rw [cfl T.h60]
  simp [f60, e10, e18, fldv_shown]
theorem c61 (T : TM tbl) (k : Nat) (hf : StpsFit ss) (hfs : ∀ f ∈ fs, fctOk f) (h1 : 0 < s.1) (h2 : 0 < s.2) (hk : keeps fs s = true) : callF tbl (k+6) 61 [.v (dPlan ss fs), .v (dP s)] M = .ok (.n (doneL ss (runOf ss s))) M := by
  have e10 : ∀ N, callF tbl (k+5) 10 [.v (dPlan ss fs), .v (dP s)] N = _ := fun N => c10 (M := N) T.toTD T.h9 T.h10 (k+1) ss fs hfs (dP s) (fits_dP 19 s)
  simp only [okSz_of h1 h2, hk, if_true] at e10
  have e18 : ∀ N, callF tbl (k+5) 18 [.v (dPlan ss fs), .v (dP s)] N = _ := fun N => c18 T.toTD k ss hf.len hf.1 s h1 h2 fs
  have h9 := hf.1
  have f1 : ∀ x0 x1 x3, lcS (callF tbl (k+5)) (.b2 .inn (.var 3) (.fld (.var 2) .bars)) (.v 3) .no ((List.range ss.length).map fun (i : Nat) => .int (i : Int)) [x0, x1, some (.v (dRun (runOf ss s))), x3] M = .ok (.n (doneL ss (runOf ss s))) M := by
    intro x0 x1 x3
    refine lcS_map _ _ _ ?_ (by simp; omega)
    intro i _
    simp [lcB, bindT, wipeE, Tg.own, fldv_bars, op2, in_code]
  have c1 : (-1000000 : Int) < ss.length := by omega
  have c2 : (ss.length : Int) < 1000000 := by omega
  rw [cfl T.h61]
  simp [f61, e10, e18, fld_osteps, len_stps, c1, c2, f1]
theorem c44 (T : TM tbl) (k : Nat) (hfs : ∀ f ∈ fs, fctOk f) (h1 : 0 < s.1) (h2 : 0 < s.2) (hk : keeps fs s = true) : callF tbl (k+5) 44 [.c M.length, .v (dPlan ss fs), .v (dP s)] (M ++ [.ins 12 [] []]) = .ok (.v .non) (M ++ [dMod ss fs s []]) := by
  have e10 : ∀ N, callF tbl (k+4) 10 [.v (dPlan ss fs), .v (dP s)] N = _ := fun N => c10 (M := N) T.toTD T.h9 T.h10 k ss fs hfs (dP s) (fits_dP 19 s)
  simp only [okSz_of h1 h2, hk, if_true] at e10
  rw [cfl T.h44]
  simp [f44, e10, fputM, fnewM, owned, okF, put, mine, dMod]
theorem c44x (T : TM tbl) (k : Nat) (hfs : ∀ f ∈ fs, fctOk f) (x : D) (hx : fits 20 x = true) (hk : okSz fs x = false) (N : Mem) : callF tbl (k+5) 44 [.c M.length, .v (dPlan ss fs), .v x] (M ++ [.ins 12 [] []]) = .ex 3 .non (M ++ [.ins 12 [] []]) := by
  have e10 : ∀ N, callF tbl (k+4) 10 [.v (dPlan ss fs), .v x] N = _ := fun N => c10 (M := N) T.toTD T.h9 T.h10 k ss fs hfs x hx
  simp only [hk, Bool.false_eq_true, if_false] at e10
  rw [cfl T.h44]
  simp [f44, e10]
theorem c46 (T : TM tbl) (k : Nat) (h : M[i]? = some (dMod ss fs s past)) : callF tbl (k+1) 46 [.c i] M = .ok (.v (dP s)) M := by
  rw [cfl T.h46]
  simp [f46, fm_snow h]
theorem c47 (T : TM tbl) (k : Nat) (hf : StpsFit ss) (hfs : ∀ f ∈ fs, fctOk f) (h1 : 0 < s.1) (h2 : 0 < s.2) (hk : keeps fs s = true) (h : M[i]? = some (dMod ss fs s past)) : callF tbl (k+7) 47 [.c i] M = .ok (.v (.lst ((runOf ss s).shown.map dP))) M := by
  have e60 : callF tbl (k+6) 60 [.v (dPlan ss fs), .v (dP s)] M = _ := c60 T k hf hfs h1 h2 hk
  rw [cfl T.h47]
  simp [f47, fm_snow h, fm_pused h, e60]
theorem c48 (T : TM tbl) (k : Nat) (hf : StpsFit ss) (hfs : ∀ f ∈ fs, fctOk f) (h1 : 0 < s.1) (h2 : 0 < s.2) (hk : keeps fs s = true) (h : M[i]? = some (dMod ss fs s past)) : callF tbl (k+7) 48 [.c i] M = .ok (.v (.lst (doneL ss (runOf ss s)))) M := by
  have e61 : callF tbl (k+6) 61 [.v (dPlan ss fs), .v (dP s)] M = _ := c61 T k hf hfs h1 h2 hk
  rw [cfl T.h48]
  simp [f48, fm_snow h, fm_pused h, e61]
theorem c49a (T : TM tbl) (k : Nat) (h : M[i]? = some (dMod ss fs s [])) : callF tbl (k+1) 49 [.c i] M = .ok (.v (.bl false)) M := by
  have gp := get_past h
  have eq := eqD_pcs [] []
  simp at eq gp
  rw [cfl T.h49]
  simp [f49, fm_past h, gp, op2, eq]
theorem c49b (T : TM tbl) (k : Nat) (z : Int × Int) (h : M[i]? = some (dMod ss fs s (past ++ [z]))) : callF tbl (k+1) 49 [.c i] M = .ok (.v (.bl true)) (M.set i (dMod ss fs z past)) := by
  have gp := get_past h
  have eq := eqD_pcs (past ++ [z]) []
  have hi : i < M.length := (List.getElem?_eq_some_iff.mp h).1
  rw [decide_eq_false (by simp), List.map_nil] at eq
  have pl : popL (.lst ((past ++ [z]).map dP)) = some (dP z, past.map dP) := by
    rw [List.map_append, List.map_cons, List.map_nil]
    simp [popL]
  have sp := set_past h past
  have h2 : (M.set i (dMod ss fs s past))[i]? = some (dMod ss fs s past) := by simp [hi]
  have ss' := set_snow h2 z
  generalize (past ++ [z]).map dP = L at gp eq pl
  rw [cfl T.h49]
  simp [f49, fm_past h, gp, op2, eq, pl, popW, sp, owned, ss']
theorem c50 (T : TM tbl) (k : Nat) (h : M[i]? = some (dMod ss fs s past)) : callF tbl (k+1) 50 [.c i] M = .ok (.v (.int past.length)) M := by
  have gp := get_past h
  rw [cfl T.h50]
  simp [f50, fm_past h, gp]
/-! a turn -/
def laterD (b : Bool) (s : Int × Int) (y : D) : D := if b then .tup [y, .int s.2] else .tup [.int s.1, y]
def later (b : Bool) (s : Int × Int) (v : Int) : Int × Int := if b then (v, s.2) else (s.1, v)
def chgd (ss : List Stp) (r r' : RunS) : List Nat := (List.range ss.length).filter fun i => decide ((lkB r.fm i).getD none ≠ (lkB r'.fm i).getD none)
theorem fits_dFM (o : Option Marks) : fits 20 (dFM o) = true := by
  cases o with
  | none => rfl
  | some ms => exact fits_marks ms
theorem eqD_FM (a b : Option Marks) : eqD (dFM a) (dFM b) = some (decide (a = b)) := by
  have e : ∀ x y : D, (∀ s t, ¬ (x = .str s ∧ y = .str t)) → fits 20 x = true → fits 20 y = true → eqD x y = some (eqB x y) := by
    intro x y h hx hy
    unfold eqD
    split
    · exact absurd ⟨rfl, rfl⟩ (h _ _)
    · rw [hx, hy]; rfl
  rw [e _ _ (by intro s t h; cases a <;> cases h.1) (fits_dFM a) (fits_dFM b)]
  cases a with
  | none => cases b with
    | none => rfl
    | some y => simp [dFM, dMarks, eqB]
  | some x => cases b with
    | none => simp [dFM, dMarks, eqB]
    | some y =>
      show some (eqB (.tup (x.map dMark)) (.tup (y.map dMark))) = _
      rw [eqB, eqBs_code dMark eqB_mark]; simp
theorem c45x (T : TM tbl) (k : Nat) (h : M[i]? = some (dMod ss fs s past)) (x y : D) (hx : fits 20 x = true) (hy : ∀ t, x = .str t → inB (.str t) (.tup [.str "a", .str "b"]) = some false) : callF tbl (k+1) 45 [.c i, .v x, .v y] M = .ex 5 .non M := by
  have ty := ty_fits hx
  rw [cfl T.h45]
  cases x with
  | str t => simp [f45, op2, hy t rfl]
  | _ => first | (simp [f45]; done) | cases hx
theorem strOkab : PyData.strOk ("a" : PySem.Str) = true ∧ PyData.strOk ("b" : PySem.Str) = true := by decide +kernel
theorem in_ab (b : Bool) : inB (sW b "a" "b") (.tup [.str "a", .str "b"]) = some true := by cases b <;> decide +kernel
theorem eq_a (b : Bool) : eqD (sW b "a" "b") (.str "a") = some b := by cases b <;> decide +kernel
theorem fits_later (b : Bool) (s : Int × Int) {y : D} (hy : fits 19 y = true) : fits 20 (laterD b s y) = true := by cases b <;> simp [laterD, fits, hy, fits_int]
theorem c45s (T : TM tbl) (k : Nat) (hfs : ∀ f ∈ fs, fctOk f) (h : M[i]? = some (dMod ss fs s past)) (b : Bool) (y : D) (hy : fits 19 y = true) (hk : okSz fs (laterD b s y) = false) : callF tbl (k+5) 45 [.c i, .v (sW b "a" "b"), .v y] M = .ex 3 .non M := by
  have e10 : ∀ N, callF tbl (k+4) 10 [.v (dPlan ss fs), .v (laterD b s y)] N = _ := fun N => c10 (M := N) T.toTD T.h9 T.h10 k ss fs hfs (laterD b s y) (fits_later b s hy)
  simp only [hk, Bool.false_eq_true, if_false] at e10
  have ia := in_ab b
  have i0 : idxD (dP s) (.int 0) = some (.int s.1) := rfl
  have i1 : idxD (dP s) (.int 1) = some (.int s.2) := rfl
  rw [cfl T.h45]
  cases b <;> simp [laterD] at e10 <;> simp [sW] at ia <;> simp [f45, op2, ia, sW, fm_snow h, fm_pused h, i0, i1, e10]
theorem c45 (T : TM tbl) (k : Nat) (hf : StpsFit ss) (hfs : ∀ f ∈ fs, fctOk f) (h : M[i]? = some (dMod ss fs s past)) (hl : past.length ≤ 1000) (h1 : 0 < s.1) (h2 : 0 < s.2) (b : Bool) (v : Int) (q1 : 0 < (later b s v).1) (q2 : 0 < (later b s v).2) (hk : keeps fs (later b s v) = true) : callF tbl (k+7) 45 [.c i, .v (sW b "a" "b"), .v (.int v)] M = .ok (.n ((chgd ss (runOf ss s) (runOf ss (later b s v))).map fun (i : Nat) => .int (i : Int))) (M.set i (dMod ss fs (later b s v) (past ++ [s]))) := by
  have e10 : ∀ N, callF tbl (k+6) 10 [.v (dPlan ss fs), .v (dP (later b s v))] N = _ := fun N => c10 (M := N) T.toTD T.h9 T.h10 (k+2) ss fs hfs (dP (later b s v)) (fits_dP 19 _)
  simp only [okSz_of q1 q2, hk, if_true] at e10
  have e21 : ∀ N, callF tbl (k+6) 21 [.v (dPlan ss fs), .v (dP s)] N = _ := fun N => c21 T.toTN k ss hf fs s h1 h2
  have e21b : ∀ N, callF tbl (k+6) 21 [.v (dPlan ss fs), .v (dP (later b s v))] N = _ := fun N => c21 T.toTN k ss hf fs (later b s v) q1 q2
  have h9 := hf.1
  have ia := in_ab b
  have i0 : idxD (dP s) (.int 0) = some (.int s.1) := rfl
  have i1 : idxD (dP s) (.int 1) = some (.int s.2) := rfl
  have hi : i < M.length := (List.getElem?_eq_some_iff.mp h).1
  have gp := get_past h
  have ap : appD (.lst (past.map dP)) (dP s) = some (.lst ((past ++ [s]).map dP)) := by
    rw [appDl, if_pos (by simp; omega)]; simp
  have sp := set_past h (past ++ [s])
  have hh2 : (M.set i (dMod ss fs s (past ++ [s])))[i]? = some (dMod ss fs s (past ++ [s])) := by simp [hi]
  have ss' := set_snow hh2 (later b s v)
  have f1 : ∀ x0 x1 x2 x3 x4 x6 x7 N, lcS (callF tbl (k+6)) (.var 6) (.t [6, 7]) (.so (.b2 .ne (.var 7) (.idx (.var 5) (.var 6)))) ((List.range ss.length).map fun (i : Nat) => .tup [.int (i : Int), dFM ((lkB (runOf ss s).fm i).getD none)]) [x0, x1, x2, x3, x4, some (.v (.lst (nameL ss (runOf ss (later b s v))))), x6, x7] N = .ok (.n ((chgd ss (runOf ss s) (runOf ss (later b s v))).map fun (i : Nat) => .int (i : Int))) N := by
    intro x0 x1 x2 x3 x4 x6 x7 N
    refine lcS_flt _ _ _ _ ?_ (by simp; omega)
    intro j hj
    have hj := List.mem_range.mp hj
    have ix : idxD (.lst (nameL ss (runOf ss (later b s v)))) (.int (j : Int)) = some (dFM ((lkB (runOf ss (later b s v)).fm j).getD none)) := by
      rw [ixD_l, nameL, List.getElem?_map, List.getElem?_range hj]; rfl
    have eq := eqD_FM ((lkB (runOf ss s).fm j).getD none) ((lkB (runOf ss (later b s v)).fm j).getD none)
    generalize (lkB (runOf ss s).fm j).getD none = A at eq ⊢
    generalize (lkB (runOf ss (later b s v)).fm j).getD none = B at eq ix ⊢
    by_cases hab : A = B
    · subst hab; simp at eq; simp [lcB, bindT, setAll, wipeE, Tg.own, ix, op2, eq]
    · rw [decide_eq_false hab] at eq; simp [lcB, bindT, setAll, wipeE, Tg.own, ix, op2, eq, hab]
  have en := enum_range (fun i => dFM ((lkB (runOf ss s).fm i).getD none)) ss.length
  have en : enumD 0 (nameL ss (runOf ss s)) = _ := en
  have el : dP (later b s v) = laterD b s (.int v) := by cases b <;> rfl
  rw [el] at e10 e21b ss'
  generalize runOf ss (later b s v) = r' at *
  generalize later b s v = z at *
  rw [cfl T.h45]
  generalize (past ++ [s]).map dP = L at *
  cases b <;> simp [laterD] at e10 e21b ss' <;> simp [sW] at ia <;> simp [f45, op2, ia, sW, fm_snow h, fm_pused h, fm_past h, i0, i1, e10, e21, e21b, bindT, setAll, gp, ap, sp, owned, ss', en, f1]
end
end P
end Bf

set_option Elab.async false
set_option linter.all false
namespace Bf
open PySem
/-! law_k08: its own forms -/
/-! _law_told -/
def f92 : FD := ⟨false, 3, 4, (.cons (.set 3 (.lit .non))
  (.cons (.try_ [2, 3, 5] (.cons (.set 3 (.mth 12 45 (.var 0) (.cons (.var 1) (.cons (.var 2) .nil))))
  .nil) [(5, none, (.lit 3 (.str "size"))), (3, none, (.lit 3 (.str "sizes")))])
  (.cons (.ret (.var 3))
  .nil)))⟩
/-! _law_bad -/
def f91 : FD := ⟨false, 2, 3, (.cons (.set 2 (.lit (.bl false)))
  (.cons (.try_ [2, 3, 5] (.cons (.ex (.make 12 44 (.cons (.var 0) (.cons (.var 1) .nil))))
  .nil) [(3, none, (.lit 2 (.bl true)))])
  (.cons (.ret (.var 2))
  .nil)))⟩
/-! law -/
def f98_b0 : Ss := (.cons (.set 8 (.call 71 (.cons (.var 1) (.cons (.lit (.int 5)) .nil))))
  (.cons (.ite (.b2 .eq (.var 8) (.lit (.int 0))) (.cons (.ite (.b2 .ne (.mth 12 49 (.var 6) .nil) (.b2 .gt (.bi .len (.cons (.var 5) .nil)) (.lit (.int 1)))) (.cons (.ret (.lit (.bl false)))
  .nil) .nil)
  (.cons (.set 5 (.sl (.var 5) .no (.so (.bi .max (.cons (.lst (.cons (.lit (.int 1)) (.cons (.b2 .sub (.bi .len (.cons (.var 5) .nil)) (.lit (.int 1))) .nil))) .nil)))))
  .nil)) (.cons (.ite (.b2 .eq (.var 8) (.lit (.int 1))) (.cons (.set 10 (.call 72 (.cons (.var 1) (.cons (.lst (.cons (.lit .non) (.cons (.lit (.str "c")) (.cons (.lit (.str "")) (.cons (.lit (.int 0)) (.cons (.tup (.cons (.lit (.str "a")) .nil)) (.cons (.lit (.bl true)) .nil))))))) .nil))))
  (.cons (.set 11 (.call 72 (.cons (.var 1) (.cons (.lst (.cons (.lit (.int 0)) (.cons (.neg (.lit (.int 1))) (.cons (.lit .non) (.cons (.lit (.str "2")) (.cons (.lit (.bl true)) (.cons (.tup (.cons (.lit (.int 1)) .nil)) .nil))))))) .nil))))
  (.cons (.ite (.or (.b2 .ne (.call 92 (.cons (.var 6) (.cons (.var 10) (.cons (.var 11) .nil)))) (.lit (.str "size"))) (.b2 .ne (.call 92 (.cons (.var 6) (.cons (.call 72 (.cons (.var 1) (.cons (.lst (.cons (.lit (.str "a")) (.cons (.lit (.str "b")) .nil))) .nil))) (.cons (.var 11) .nil)))) (.lit (.str "sizes")))) (.cons (.ret (.lit (.bl false)))
  .nil) .nil)
  .nil))) (.cons (.set 12 (.b2 .add (.lit (.int 1)) (.call 71 (.cons (.var 1) (.cons (.lit (.int 9)) .nil)))))
  (.cons (.set 13 (.call 72 (.cons (.var 1) (.cons (.lst (.cons (.lit (.str "a")) (.cons (.lit (.str "b")) .nil))) .nil))))
  (.cons (.set 14 (.ite (.b2 .eq (.var 13) (.lit (.str "a"))) (.tup (.cons (.var 12) (.cons (.idx (.idx (.var 5) (.neg (.lit (.int 1)))) (.lit (.int 1))) .nil))) (.tup (.cons (.idx (.idx (.var 5) (.neg (.lit (.int 1)))) (.lit (.int 0))) (.cons (.var 12) .nil)))))
  (.cons (.set 15 (.lit (.str "sizes")))
  (.cons (.ite (.call 79 (.cons (.var 3) (.cons (.var 14) .nil))) (.cons (.set 16 (.idx (.call 87 (.cons (.var 2) (.cons (.idx (.var 5) (.neg (.lit (.int 1)))) .nil))) (.lit (.int 1))))
  (.cons (.set 17 (.idx (.call 87 (.cons (.var 2) (.cons (.var 14) .nil))) (.lit (.int 1))))
  (.cons (.set 15 (.lc (.var 18) (.v 18) (.r1 (.bi .len (.cons (.var 2) .nil))) (.so (.b2 .ne (.idx (.var 16) (.var 18)) (.idx (.var 17) (.var 18))))))
  .nil))) .nil)
  (.cons (.ite (.not (.call 73 (.cons (.call 92 (.cons (.var 6) (.cons (.var 13) (.cons (.var 12) .nil)))) (.cons (.var 15) .nil)))) (.cons (.ret (.lit (.bl false)))
  .nil) .nil)
  (.cons (.ite (.b2 .ne (.var 15) (.lit (.str "sizes"))) (.cons (.set 5 (.b2 .add (.var 5) (.lst (.cons (.var 14) .nil))))
  .nil) .nil)
  .nil))))))))
  .nil))
  (.cons (.set 9 (.idx (.call 87 (.cons (.var 2) (.cons (.idx (.var 5) (.neg (.lit (.int 1)))) .nil))) (.lit (.int 0))))
  (.cons (.ite (.not (.call 73 (.cons (.lst (.cons (.mth 12 46 (.var 6) .nil) (.cons (.mth 12 47 (.var 6) .nil) (.cons (.lenO 12 50 (.var 6)) .nil)))) (.cons (.lst (.cons (.idx (.var 5) (.neg (.lit (.int 1)))) (.cons (.call 86 (.cons (.var 9) .nil)) (.cons (.b2 .sub (.bi .len (.cons (.var 5) .nil)) (.lit (.int 1))) .nil)))) .nil)))) (.cons (.ret (.lit (.bl false)))
  .nil) .nil)
  (.cons (.ite (.not (.call 73 (.cons (.mth 12 48 (.var 6) .nil) (.cons (.lc (.b2 .inn (.var 18) (.var 9)) (.v 18) (.r1 (.bi .len (.cons (.var 2) .nil))) .no) .nil)))) (.cons (.ret (.lit (.bl false)))
  .nil) .nil)
  .nil)))))
def f98 : FD := ⟨false, 1, 19, (.cons (.setCall 1 70 (.cons (.var 0) (.cons (.lit (.int 378)) .nil)))
  (.cons (.set 2 (.call 76 (.cons (.var 1) (.cons (.call 71 (.cons (.var 1) (.cons (.lit (.int 6)) .nil))) .nil))))
  (.cons (.set 3 (.call 77 (.cons (.var 1) .nil)))
  (.cons (.set 4 (.make 10 6 (.cons (.var 2) (.cons (.var 3) .nil))))
  (.cons (.set 5 (.lst (.cons (.call 72 (.cons (.var 1) (.cons (.call 80 (.cons (.var 3) (.cons (.lit (.int 6)) .nil))) .nil))) .nil)))
  (.cons (.setMk 6 12 44 (.cons (.var 4) (.cons (.idx (.var 5) (.lit (.int 0))) .nil)))
  (.cons (.loop (.v 7) (.r1 (.call 71 (.cons (.var 1) (.cons (.lit (.int 15)) .nil)))) f98_b0)
  (.cons (.ret (.call 91 (.cons (.var 4) (.cons (.call 72 (.cons (.var 1) (.cons (.lst (.cons (.lit .non) (.cons (.tup (.cons (.lit (.int 0)) (.cons (.lit (.int 1)) .nil))) (.cons (.tup (.cons (.lit (.int 1)) .nil)) (.cons (.lst (.cons (.lit (.int 1)) (.cons (.lit (.int 1)) .nil))) (.cons (.tup (.cons (.lit (.int 1)) (.cons (.lit (.bl true)) .nil))) (.cons (.lit (.str "ab")) .nil))))))) .nil))) .nil))))
  .nil))))))))⟩
end Bf

set_option Elab.async false
set_option linter.all false
namespace Bf
namespace P
open PySem
/-! ### law k08 -/
structure T08 (tbl : Nat → Option FD) : Prop extends TM tbl, TW tbl, TP tbl, TR tbl where
  h73 : tbl 73 = some f73
  h80 : tbl 80 = some f80
  h91 : tbl 91 = some f91
  h92 : tbl 92 = some f92
  h98 : tbl 98 = some f98
theorem fit_of {n : Nat} {ss : List Stp} (h1 : ss.length = n) (h2 : n ≤ 5) (h3 : ∀ i (s : Stp), ss[i]? = some s → stpOk i s) : stpsOk ss ∧ StpsFit ss := by
  refine ⟨⟨by omega, h3⟩, ⟨by omega, ?_⟩⟩
  intro s hs
  obtain ⟨i, hi⟩ := List.mem_iff_getElem?.mp hs
  obtain ⟨h4, h5⟩ := h3 i s hi
  refine ⟨?_, h5⟩
  have : i < ss.length := (List.getElem?_eq_some_iff.mp hi).1
  cases hm : s.nm with
  | start => trivial
  | count l k => rw [hm] at h4; exact h4
  | ende j b => rw [hm] at h4; show j < 100; have : j < i := h4; omega
  | beside j b => rw [hm] at h4; show j < 100; have : j < i := h4; omega
theorem cut_to2 (xs : List D) (i : Nat) : cutD xs none (some (i : Int)) = xs.take i := by
  have h1 : HT.sIx xs.length 0 none = 0 := by simp [HT.sIx]
  rw [cutD, h1, HT.sIx_nat]
  simp
section
variable {tbl : Nat → Option FD}
theorem drawO (T : TW tbl) (k : Nat) (ss : List Stp) (hf : StpsFit ss) (s : Int × Int) (h1 : 0 < s.1) (h2 : 0 < s.2) (M : Mem) : callF tbl (k+3) 86 [.v (dKB dLB (lbOf ss s))] M = .ok (.n ((runOf ss s).shown.map dP)) M := by
  have hR := (c85 (M := []) T.toTL 0 ss hf s h1 h2 _ (ord_range ss)).1
  obtain ⟨hr, hb⟩ := runG_ho ss hf s h1 h2 _ (ord_range ss)
  exact c86 T k _ _ hr hR hb _ (.v _)
theorem ixr0 (lb : LBars) (r : RunS) : idxD (dRunL lb r) (.int 0) = some (dKB dLB lb) := rfl
theorem ixr1 (lb : LBars) (r : RunS) : idxD (dRunL lb r) (.int 1) = some (dKB dFM r.fm) := rfl
theorem lkB_lb {r : RunS} {lb : LBars} (h : Rel r lb) (i : Nat) : (lkB lb i).isSome = (lkB r.bars i).isSome := by
  rw [h.bars, lkB_bars]; cases lkB lb i <;> rfl
theorem ix_last (past : List (Int × Int)) (s : Int × Int) : idxD (.lst ((past ++ [s]).map dP)) (.int (-1)) = some (dP s) := by
  show L2.atI ((past ++ [s]).map dP) (-1) = _
  rw [atM, List.map_append]; simp
def PZ (fs : List Fct) (z : Int × Int) : Prop := 0 < z.1 ∧ 0 < z.2 ∧ keeps fs z = true
section
variable {M : Mem} {i : Nat} {ss : List Stp} {fs : List Fct} {s : Int × Int} {past : List (Int × Int)}
theorem insM (h : M[i]? = some (dMod ss fs s past)) : M[i]? = some (.ins 12 [.pused, .snow, .past] [dPlan ss fs, dP s, .lst (past.map dP)]) := h
theorem c92a (T : T08 tbl) (h : M[i]? = some (dMod ss fs s past)) (x y : D) (hx : fits 20 x = true) (hy : ∀ t, x = .str t → inB (.str t) (.tup [.str "a", .str "b"]) = some false) : callF tbl 20 92 [.c i, .v x, .v y] M = .ok (.v (.str "size")) M := by
  have e45 : callF tbl 19 45 [.c i, .v x, .v y] M = .ex 5 .non M := c45x T.toTM 18 h x y hx hy
  rw [show (20 : Nat) = 19 + 1 from rfl, cfl T.h92]
  simp [f92, insM h, e45, tryR, caught, isSub, suR, nmR]
theorem c92b (T : T08 tbl) (hfs : ∀ f ∈ fs, fctOk f) (h : M[i]? = some (dMod ss fs s past)) (b : Bool) (y : D) (hy : fits 19 y = true) (hk : okSz fs (laterD b s y) = false) : callF tbl 20 92 [.c i, .v (sW b "a" "b"), .v y] M = .ok (.v (.str "sizes")) M := by
  have e45 : callF tbl 19 45 [.c i, .v (sW b "a" "b"), .v y] M = .ex 3 .non M := c45s T.toTM 14 hfs h b y hy hk
  rw [show (20 : Nat) = 19 + 1 from rfl, cfl T.h92]
  simp [f92, insM h, e45, tryR, caught, isSub, suR, nmR]
theorem c92c (T : T08 tbl) (hf : StpsFit ss) (hfs : ∀ f ∈ fs, fctOk f) (h : M[i]? = some (dMod ss fs s past)) (hl : past.length ≤ 1000) (h1 : 0 < s.1) (h2 : 0 < s.2) (b : Bool) (v : Int) (q1 : 0 < (later b s v).1) (q2 : 0 < (later b s v).2) (hk : keeps fs (later b s v) = true) : callF tbl 20 92 [.c i, .v (sW b "a" "b"), .v (.int v)] M = .ok (.v (.lst ((chgd ss (runOf ss s) (runOf ss (later b s v))).map fun (i : Nat) => .int (i : Int)))) (M.set i (dMod ss fs (later b s v) (past ++ [s]))) := by
  have e45 : callF tbl 19 45 [.c i, .v (sW b "a" "b"), .v (.int v)] M = _ := c45 T.toTM 12 hf hfs h hl h1 h2 b v q1 q2 hk
  rw [show (20 : Nat) = 19 + 1 from rfl, cfl T.h92]
  simp [f92, insM h, e45, tryR]
theorem c91 (T : T08 tbl) (hfs : ∀ f ∈ fs, fctOk f) (x : D) (hx : fits 20 x = true) (hk : okSz fs x = false) : callF tbl 20 91 [.v (dPlan ss fs), .v x] M = .ok (.v (.bl true)) M := by
  have e44 : ∀ N : Mem, callF tbl 19 44 [.c N.length, .v (dPlan ss fs), .v x] (N ++ [.ins 12 [] []]) = _ := fun N => c44x (M := N) T.toTM 14 hfs x hx hk N
  rw [show (20 : Nat) = 19 + 1 from rfl, cfl T.h91]
  simp [f91, e44, madeV, tryR, caught, isSub, suR, nmR]
end
def rest08 : Ss := (.cons (.set 9 (.idx (.call 87 (.cons (.var 2) (.cons (.idx (.var 5) (.neg (.lit (.int 1)))) .nil))) (.lit (.int 0))))
  (.cons (.ite (.not (.call 73 (.cons (.lst (.cons (.mth 12 46 (.var 6) .nil) (.cons (.mth 12 47 (.var 6) .nil) (.cons (.lenO 12 50 (.var 6)) .nil)))) (.cons (.lst (.cons (.idx (.var 5) (.neg (.lit (.int 1)))) (.cons (.call 86 (.cons (.var 9) .nil)) (.cons (.b2 .sub (.bi .len (.cons (.var 5) .nil)) (.lit (.int 1))) .nil)))) .nil)))) (.cons (.ret (.lit (.bl false)))
  .nil) .nil)
  (.cons (.ite (.not (.call 73 (.cons (.mth 12 48 (.var 6) .nil) (.cons (.lc (.b2 .inn (.var 18) (.var 9)) (.v 18) (.r1 (.bi .len (.cons (.var 2) .nil))) .no) .nil)))) (.cons (.ret (.lit (.bl false)))
  .nil) .nil)
  .nil)))
theorem b0_eq : f98_b0 = (.cons (.set 8 (.call 71 (.cons (.var 1) (.cons (.lit (.int 5)) .nil))))
  (.cons (.ite (.b2 .eq (.var 8) (.lit (.int 0))) (.cons (.ite (.b2 .ne (.mth 12 49 (.var 6) .nil) (.b2 .gt (.bi .len (.cons (.var 5) .nil)) (.lit (.int 1)))) (.cons (.ret (.lit (.bl false)))
  .nil) .nil)
  (.cons (.set 5 (.sl (.var 5) .no (.so (.bi .max (.cons (.lst (.cons (.lit (.int 1)) (.cons (.b2 .sub (.bi .len (.cons (.var 5) .nil)) (.lit (.int 1))) .nil))) .nil)))))
  .nil)) (.cons (.ite (.b2 .eq (.var 8) (.lit (.int 1))) (.cons (.set 10 (.call 72 (.cons (.var 1) (.cons (.lst (.cons (.lit .non) (.cons (.lit (.str "c")) (.cons (.lit (.str "")) (.cons (.lit (.int 0)) (.cons (.tup (.cons (.lit (.str "a")) .nil)) (.cons (.lit (.bl true)) .nil))))))) .nil))))
  (.cons (.set 11 (.call 72 (.cons (.var 1) (.cons (.lst (.cons (.lit (.int 0)) (.cons (.neg (.lit (.int 1))) (.cons (.lit .non) (.cons (.lit (.str "2")) (.cons (.lit (.bl true)) (.cons (.tup (.cons (.lit (.int 1)) .nil)) .nil))))))) .nil))))
  (.cons (.ite (.or (.b2 .ne (.call 92 (.cons (.var 6) (.cons (.var 10) (.cons (.var 11) .nil)))) (.lit (.str "size"))) (.b2 .ne (.call 92 (.cons (.var 6) (.cons (.call 72 (.cons (.var 1) (.cons (.lst (.cons (.lit (.str "a")) (.cons (.lit (.str "b")) .nil))) .nil))) (.cons (.var 11) .nil)))) (.lit (.str "sizes")))) (.cons (.ret (.lit (.bl false)))
  .nil) .nil)
  .nil))) (.cons (.set 12 (.b2 .add (.lit (.int 1)) (.call 71 (.cons (.var 1) (.cons (.lit (.int 9)) .nil)))))
  (.cons (.set 13 (.call 72 (.cons (.var 1) (.cons (.lst (.cons (.lit (.str "a")) (.cons (.lit (.str "b")) .nil))) .nil))))
  (.cons (.set 14 (.ite (.b2 .eq (.var 13) (.lit (.str "a"))) (.tup (.cons (.var 12) (.cons (.idx (.idx (.var 5) (.neg (.lit (.int 1)))) (.lit (.int 1))) .nil))) (.tup (.cons (.idx (.idx (.var 5) (.neg (.lit (.int 1)))) (.lit (.int 0))) (.cons (.var 12) .nil)))))
  (.cons (.set 15 (.lit (.str "sizes")))
  (.cons (.ite (.call 79 (.cons (.var 3) (.cons (.var 14) .nil))) (.cons (.set 16 (.idx (.call 87 (.cons (.var 2) (.cons (.idx (.var 5) (.neg (.lit (.int 1)))) .nil))) (.lit (.int 1))))
  (.cons (.set 17 (.idx (.call 87 (.cons (.var 2) (.cons (.var 14) .nil))) (.lit (.int 1))))
  (.cons (.set 15 (.lc (.var 18) (.v 18) (.r1 (.bi .len (.cons (.var 2) .nil))) (.so (.b2 .ne (.idx (.var 16) (.var 18)) (.idx (.var 17) (.var 18))))))
  .nil))) .nil)
  (.cons (.ite (.not (.call 73 (.cons (.call 92 (.cons (.var 6) (.cons (.var 13) (.cons (.var 12) .nil)))) (.cons (.var 15) .nil)))) (.cons (.ret (.lit (.bl false)))
  .nil) .nil)
  (.cons (.ite (.b2 .ne (.var 15) (.lit (.str "sizes"))) (.cons (.set 5 (.b2 .add (.var 5) (.lst (.cons (.var 14) .nil))))
  .nil) .nil)
  .nil))))))))
  .nil))
  rest08)) := rfl
theorem fin08 (T : T08 tbl) (n0 : Nat) (S : W) (i : D) (ss : List Stp) (hf : StpsFit ss) (fs : List Fct) (hfs : ∀ f ∈ fs, fctOk f) (s : Int × Int) (past : List (Int × Int)) (hz : PZ fs s) (hl : past.length ≤ 1000) (d : D) (x8 x9 x10 x11 x12 x13 x14 x15 x16 x17 x18 : Option W) : ∃ (y9 : Option W),
    evSs (callF tbl 20) n0 rest08 [some S, some (.c 0), some (.v (dStps ss)), some (.v (dFcts fs)), some (.v (dPlan ss fs)), some (.v (.lst ((past ++ [s]).map dP))), some (.c 1), some (.v i), x8, x9, x10, x11, x12, x13, x14, x15, x16, x17, x18] [d, dMod ss fs s past] = .nx [some S, some (.c 0), some (.v (dStps ss)), some (.v (dFcts fs)), some (.v (dPlan ss fs)), some (.v (.lst ((past ++ [s]).map dP))), some (.c 1), some (.v i), x8, y9, x10, x11, x12, x13, x14, x15, x16, x17, x18] [d, dMod ss fs s past] := by
  obtain ⟨h1, h2, hk⟩ := hz
  have h9 := hf.1
  have hM : [d, dMod ss fs s past][1]? = some (dMod ss fs s past) := rfl
  have e87 : ∀ N, callF tbl 20 87 [.v (dStps ss), .v (dP s)] N = _ := fun N => c87 T.toTW 15 ss hf s h1 h2
  have e86 : ∀ N, callF tbl 20 86 [.v (dKB dLB (lbOf ss s))] N = _ := fun N => drawO T.toTW 17 ss hf s h1 h2 N
  have e46 : callF tbl 20 46 [.c 1] [d, dMod ss fs s past] = _ := c46 T.toTM 19 hM
  have e47 : callF tbl 20 47 [.c 1] [d, dMod ss fs s past] = _ := c47 T.toTM 13 hf hfs h1 h2 hk hM
  have e48 : callF tbl 20 48 [.c 1] [d, dMod ss fs s past] = _ := c48 T.toTM 13 hf hfs h1 h2 hk hM
  have e50 : callF tbl 20 50 [.c 1] [d, dMod ss fs s past] = _ := c50 T.toTM 19 hM
  have hR : Rel (runOf ss s) (lbOf ss s) := (c85 (M := []) T.toTL 0 ss hf s h1 h2 _ (ord_range ss)).1
  have il := ix_last past s
  have ln : ((past ++ [s]).map dP).length = past.length + 1 := by simp
  generalize (past ++ [s]).map dP = L at il ln ⊢
  have f1 : ∀ x18, lcS (callF tbl 20) (.b2 .inn (.var 18) (.var 9)) (.v 18) .no ((List.range ss.length).map fun (i : Nat) => .int (i : Int)) [some S, some (.c 0), some (.v (dStps ss)), some (.v (dFcts fs)), some (.v (dPlan ss fs)), some (.v (.lst L)), some (.c 1), some (.v i), x8, some (.v (dKB dLB (lbOf ss s))), x10, x11, x12, x13, x14, x15, x16, x17, x18] [d, dMod ss fs s past] = .ok (.n (doneL ss (runOf ss s))) [d, dMod ss fs s past] := by
    intro x18
    refine lcS_map _ _ _ ?_ (by simp; omega)
    intro i _
    simp [lcB, bindT, wipeE, Tg.own, op2, in_code, lkB_lb hR]
  have e73a : ∀ N, callF tbl 20 73 [.v (.lst [dP s, .lst ((runOf ss s).shown.map dP), .int past.length]), .v (.lst [dP s, .lst ((runOf ss s).shown.map dP), .int past.length])] N = .ok (.v (.bl true)) N := by
    intro N
    refine e73 T.h73 3 _ ?_ 16 N
    refine sm_lst (n := 2) id [_, _, _] (by simp) ?_
    intro x hx
    have hsl := shown_len ss hf s h1 h2 _ (ord_range ss)
    simp only [List.mem_cons, List.not_mem_nil, or_false] at hx
    rcases hx with rfl | rfl | rfl
    · exact sm_dP 1 s
    · exact sm_lst (n := 1) dP _ (Nat.le_trans hsl (by decide)) (fun p _ => sm_dP 0 p)
    · exact sm_int 2 _
  have e73b : ∀ N, callF tbl 20 73 [.v (.lst (doneL ss (runOf ss s))), .v (.lst (doneL ss (runOf ss s)))] N = .ok (.v (.bl true)) N := by
    intro N
    exact e73 T.h73 1 _ (sm_lst (n := 0) _ _ (by simp; omega) (fun i _ => sm_bl 0 _)) 18 N
  have c1 : (-1000000 : Int) < ss.length := by omega
  have c2 : (ss.length : Int) < 1000000 := by omega
  have c3 : (0 : Int) ≤ past.length := by omega
  have c4 : (past.length : Int) < 9223372036854775808 := by omega
  have c5 : ((past.length : Int) + 1 - 1) = past.length := by omega
  have c6 : (((past.length + 1 : Nat) : Int) - 1) = past.length := by omega
  simp only [dMod] at e46 e47 e48 e50 f1 ⊢
  refine ⟨some (.v (dKB dLB (lbOf ss s))), ?_⟩
  simp [rest08, il, ln, e87, ixr0, e86, e46, e47, e48, e50, op2, e73a, e73b, len_stps, c1, c2, f1, c3, c4, c5, c6]
theorem b98 (T : T08 tbl) (n0 : Nat) (S : W) (i : D) (ss : List Stp) (hf : StpsFit ss) (fs : List Fct) (hfs : ∀ f ∈ fs, fctOk f) (s : Int × Int) (past : List (Int × Int)) (hz : ∀ z ∈ s :: past, PZ fs z) (hl : past.length ≤ 900) {d : D} (hd : Good d) (x8 x9 x10 x11 x12 x13 x14 x15 x16 x17 x18 : Option W) : ∃ (d' : D) (s' : Int × Int) (past' : List (Int × Int)) (y8 y9 y10 y11 y12 y13 y14 y15 y16 y17 y18 : Option W), Good d' ∧ (∀ z ∈ s' :: past', PZ fs z) ∧ past'.length ≤ past.length + 1 ∧
    evSs (callF tbl 20) n0 f98_b0 [some S, some (.c 0), some (.v (dStps ss)), some (.v (dFcts fs)), some (.v (dPlan ss fs)), some (.v (.lst ((past ++ [s]).map dP))), some (.c 1), some (.v i), x8, x9, x10, x11, x12, x13, x14, x15, x16, x17, x18] [d, dMod ss fs s past] = .nx [some S, some (.c 0), some (.v (dStps ss)), some (.v (dFcts fs)), some (.v (dPlan ss fs)), some (.v (.lst ((past' ++ [s']).map dP))), some (.c 1), some (.v i), y8, y9, y10, y11, y12, y13, y14, y15, y16, y17, y18] [d', dMod ss fs s' past'] := by
  obtain ⟨p, d1, hp, g1, e1⟩ := c71n T.toTR 19 5 (by omega) (by omega) hd
  have e1 : ∀ M, callF tbl 20 71 [.c 0, .v (.int 5)] (d :: M) = .ok (.v (.int p)) (d1 :: M) := e1
  obtain ⟨h1, h2, hk⟩ := hz s (by simp)
  have h9 := hf.1
  have hM : ∀ d : D, [d, dMod ss fs s past][1]? = some (dMod ss fs s past) := fun _ => rfl
  have il := ix_last past s
  have ln : ((past ++ [s]).map dP).length = past.length + 1 := by simp
  by_cases p0 : p = 0
  · subst p0
    simp at e1
    rcases List.eq_nil_or_concat past with rfl | ⟨q, z, rfl⟩
    · obtain ⟨y9, ef⟩ := fin08 T n0 S i ss hf fs hfs s [] (hz s (by simp)) (by simp) d1 (some (.v (.int 0))) x9 x10 x11 x12 x13 x14 x15 x16 x17 x18
      refine ⟨d1, s, [], some (.v (.int 0)), y9, x10, x11, x12, x13, x14, x15, x16, x17, x18, g1, hz, by simp, ?_⟩
      have e49 : callF tbl 20 49 [.c 1] [d1, dMod ss fs s []] = _ := c49a T.toTM 19 (hM d1)
      have sl : sliceD (.lst [dP s]) none (some 1) = some (.lst [dP s]) := by
        rw [sliceD, show (1 : Int) = ((1 : Nat) : Int) from rfl, cut_to2]; rfl
      simp only [dMod] at e49 ef ⊢
      simp at ef e49
      simp [b0_eq, e1, op2, e49, maxI, sl, ef]
    · rw [List.concat_eq_append] at *
      obtain ⟨y9, ef⟩ := fin08 T n0 S i ss hf fs hfs z q (hz z (by simp)) (by simp at hl; omega) d1 (some (.v (.int 0))) x9 x10 x11 x12 x13 x14 x15 x16 x17 x18
      refine ⟨d1, z, q, some (.v (.int 0)), y9, x10, x11, x12, x13, x14, x15, x16, x17, x18, g1, ?_, by simp; omega, ?_⟩
      · intro a ha
        rcases List.mem_cons.mp ha with rfl | ha
        · exact hz a (by simp)
        · exact hz a (by simp [ha])
      have e49 : callF tbl 20 49 [.c 1] [d1, dMod ss fs s (q ++ [z])] = _ := c49b T.toTM 19 z (hM d1)
      have sl : sliceD (.lst ((q ++ [z] ++ [s]).map dP)) none (some ((q.length : Int) + 1)) = some (.lst ((q ++ [z]).map dP)) := by
        rw [sliceD, show ((q.length : Int) + 1) = ((q.length + 1 : Nat) : Int) from by omega, cut_to2, ← List.map_take]
        congr 3
        rw [List.take_append_of_le_length (by simp)]
        exact List.take_of_length_le (by simp)
      have ln : ((q ++ [z] ++ [s]).map dP).length = q.length + 1 + 1 := by simp
      have c1 : ((q.length : Int) + 1 + 1 > 1) := by omega
      have c2 : (1 : Int) < (q.length : Int) + 1 + 1 := by omega
      have c3 : (q.length : Int) + 1 + 1 - 1 = (q.length : Int) + 1 := by omega
      have c5 : (if (1 : Int) < (q.length : Int) + 1 then (q.length : Int) + 1 else 1) = (q.length : Int) + 1 := by split <;> omega
      have c4 : maxI 1 [(q.length : Int) + 1] = (q.length : Int) + 1 := by simp only [maxI]; split <;> omega
      generalize (q ++ [z] ++ [s]).map dP = L at sl ln ⊢
      have e49 : callF tbl 20 49 [.c 1] [d1, dMod ss fs s (q ++ [z])] = .ok (.v (.bl true)) [d1, dMod ss fs z q] := e49
      simp only [dMod] at e49 ef ⊢
      generalize (q ++ [z]).map dP = L2 at sl e49 ef ⊢
      simp [b0_eq, e1, op2, e49, ln, c2, c3, c4, c5, sl, ef]
  · have p0' := beqN (a := (p : Int)) (b := 0) (by omega)
    by_cases p1 : p = 1
    · subst p1
      simp at e1
      obtain ⟨x, d2, hx, g2, e2⟩ := c72 T.toTR 18 [.non, .str "c", .str "", .int 0, .tup [.str "a"], .bl true] (by simp) (by simp) g1
      have e2 : ∀ M, callF tbl 20 72 [.c 0, .v (.lst [.non, .str "c", .str "", .int 0, .tup [.str "a"], .bl true])] (d1 :: M) = .ok (.v x) (d2 :: M) := e2
      obtain ⟨y, d3, hy, g3, e3⟩ := c72 T.toTR 18 [.int 0, .int (-1), .non, .str "2", .bl true, .tup [.int 1]] (by simp) (by simp) g2
      have e3 : ∀ M, callF tbl 20 72 [.c 0, .v (.lst [.int 0, .int (-1), .non, .str "2", .bl true, .tup [.int 1]])] (d2 :: M) = .ok (.v y) (d3 :: M) := e3
      obtain ⟨b, d4, g4, e4⟩ := pick2 T.toTR 18 "a" "b" g3
      have e4 : ∀ M, callF tbl 20 72 [.c 0, .v (.lst [.str "a", .str "b"])] (d3 :: M) = .ok (.v (sW b "a" "b")) (d4 :: M) := e4
      have hxx : fits 20 x = true ∧ ∀ t, x = .str t → inB (.str t) (.tup [.str "a", .str "b"]) = some false := by
        simp only [List.mem_cons, List.not_mem_nil, or_false] at hx
        rcases hx with rfl | rfl | rfl | rfl | rfl | rfl <;> refine ⟨by decide +kernel, ?_⟩ <;> intro t e <;> first | (cases e; done) | (cases e; decide +kernel)
      have hyy : fits 19 y = true ∧ okSz fs (laterD b s y) = false := by
        simp only [List.mem_cons, List.not_mem_nil, or_false] at hy
        rcases hy with rfl | rfl | rfl | rfl | rfl | rfl <;> refine ⟨by decide +kernel, ?_⟩ <;> cases b <;> simp [laterD, okSz]
      have e92a : callF tbl 20 92 [.c 1, .v x, .v y] [d3, dMod ss fs s past] = _ := c92a T (hM d3) x y hxx.1 hxx.2
      have e92b : callF tbl 20 92 [.c 1, .v (sW b "a" "b"), .v y] [d4, dMod ss fs s past] = _ := c92b T hfs (hM d4) b y hyy.1 hyy.2
      obtain ⟨y9, ef⟩ := fin08 T n0 S i ss hf fs hfs s past (hz s (by simp)) (by omega) d4 (some (.v (.int 1))) x9 (some (.v x)) (some (.v y)) x12 x13 x14 x15 x16 x17 x18
      refine ⟨d4, s, past, some (.v (.int 1)), y9, some (.v x), some (.v y), x12, x13, x14, x15, x16, x17, x18, g4, hz, by omega, ?_⟩
      generalize (past ++ [s]).map dP = L at *
      simp [b0_eq, e1, op2, e2, e3, e4, e92a, e92b, ef]
    · have p1' := beqN (a := (p : Int)) (b := 1) (by omega)
      obtain ⟨v, d2, hv, g2, e2⟩ := c71n T.toTR 19 9 (by omega) (by omega) g1
      have e2 : ∀ M, callF tbl 20 71 [.c 0, .v (.int 9)] (d1 :: M) = .ok (.v (.int v)) (d2 :: M) := e2
      obtain ⟨b, d3, g3, e3⟩ := pick2 T.toTR 18 "a" "b" g2
      have e3 : ∀ M, callF tbl 20 72 [.c 0, .v (.lst [.str "a", .str "b"])] (d2 :: M) = .ok (.v (sW b "a" "b")) (d3 :: M) := e3
      have ea := eq_a b
      have i0 : idxD (dP s) (.int 0) = some (.int s.1) := rfl
      have i1 : idxD (dP s) (.int 1) = some (.int s.2) := rfl
      have el : dP (later b s (1 + (v : Int))) = laterD b s (.int (1 + (v : Int))) := by cases b <;> rfl
      have q1 : 0 < (later b s (1 + (v : Int))).1 := by cases b <;> simp [later] <;> omega
      have q2 : 0 < (later b s (1 + (v : Int))).2 := by cases b <;> simp [later] <;> omega
      have e79 : ∀ N, callF tbl 20 79 [.v (dFcts fs), .v (dP (later b s (1 + (v : Int))))] N = _ := fun N => c79 T.toTL 18 fs hfs (later b s (1 + (v : Int)))
      have e14 : ∀ N, evE (callF tbl 20) (.ite (.b2 .eq (.var 13) (.lit (.str "a"))) (.tup (.cons (.var 12) (.cons (.idx (.idx (.var 5) (.neg (.lit (.int 1)))) (.lit (.int 1))) .nil))) (.tup (.cons (.idx (.idx (.var 5) (.neg (.lit (.int 1)))) (.lit (.int 0))) (.cons (.var 12) .nil)))) [some S, some (.c 0), some (.v (dStps ss)), some (.v (dFcts fs)), some (.v (dPlan ss fs)), some (.v (.lst ((past ++ [s]).map dP))), some (.c 1), some (.v i), some (.v (.int p)), x9, x10, x11, some (.v (.int (1 + (v : Int)))), some (.v (sW b "a" "b")), x14, x15, x16, x17, x18] N = .ok (.v (dP (later b s (1 + (v : Int))))) N := by
        intro N
        generalize (past ++ [s]).map dP = L at il ⊢
        have i0 : idxD (.tup [.int s.1, .int s.2]) (.int 0) = some (.int s.1) := rfl
        have i1 : idxD (.tup [.int s.1, .int s.2]) (.int 1) = some (.int s.2) := rfl
        cases b <;> simp [dP] at il <;> simp [sW, il, i0, i1, later, dP, op2]
      cases hk2 : keeps fs (later b s (1 + (v : Int))) with
      | false =>
        have e92 : callF tbl 20 92 [.c 1, .v (sW b "a" "b"), .v (.int (1 + (v : Int)))] [d3, dMod ss fs s past] = _ := c92b T hfs (hM d3) b (.int (1 + (v : Int))) (fits_int 19 _) (by rw [← el, okSz_of q1 q2]; exact hk2)
        have e73a : ∀ N, callF tbl 20 73 [.v (.str "sizes"), .v (.str "sizes")] N = .ok (.v (.bl true)) N := fun N => e73 T.h73 0 _ rfl 19 N
        have sq : ((Str.ofString "sizes") == (Str.ofString "sizes")) = true := by decide +kernel
        obtain ⟨y9, ef⟩ := fin08 T n0 S i ss hf fs hfs s past (hz s (by simp)) (by omega) d3 (some (.v (.int p))) x9 x10 x11 (some (.v (.int (1 + (v : Int))))) (some (.v (sW b "a" "b"))) (some (.v (dP (later b s (1 + (v : Int)))))) (some (.v (.str "sizes"))) x16 x17 x18
        refine ⟨d3, s, past, some (.v (.int p)), y9, x10, x11, some (.v (.int (1 + (v : Int)))), some (.v (sW b "a" "b")), some (.v (dP (later b s (1 + (v : Int))))), some (.v (.str "sizes")), x16, x17, x18, g3, hz, by omega, ?_⟩
        generalize (past ++ [s]).map dP = L at *
        generalize dP (later b s (1 + (v : Int))) = lt at *
        simp [b0_eq, e1, op2, p0', p1', e2, e3, e14, e79, hk2, e92, e73a, sq, ef, -evE_ite]
      | true =>
        have e92 : callF tbl 20 92 [.c 1, .v (sW b "a" "b"), .v (.int (1 + (v : Int)))] [d3, dMod ss fs s past] = .ok _ [d3, dMod ss fs (later b s (1 + (v : Int))) (past ++ [s])] := c92c T hf hfs (hM d3) (by omega) h1 h2 b (1 + (v : Int)) q1 q2 hk2
        have e87 : ∀ N, callF tbl 20 87 [.v (dStps ss), .v (dP s)] N = _ := fun N => c87 T.toTW 15 ss hf s h1 h2
        have e87b : ∀ N, callF tbl 20 87 [.v (dStps ss), .v (dP (later b s (1 + (v : Int))))] N = _ := fun N => c87 T.toTW 15 ss hf (later b s (1 + (v : Int))) q1 q2
        have f1 : ∀ x8 x9 x10 x11 x12 x13 x14 x15 x18 N, lcS (callF tbl 20) (.var 18) (.v 18) (.so (.b2 .ne (.idx (.var 16) (.var 18)) (.idx (.var 17) (.var 18)))) ((List.range ss.length).map fun (i : Nat) => .int (i : Int)) [some S, some (.c 0), some (.v (dStps ss)), some (.v (dFcts fs)), some (.v (dPlan ss fs)), some (.v (.lst ((past ++ [s]).map dP))), some (.c 1), some (.v i), x8, x9, x10, x11, x12, x13, x14, x15, some (.v (dKB dFM (runOf ss s).fm)), some (.v (dKB dFM (runOf ss (later b s (1 + (v : Int)))).fm)), x18] N = .ok (.n ((chgd ss (runOf ss s) (runOf ss (later b s (1 + (v : Int))))).map fun (i : Nat) => .int (i : Int))) N := by
          intro x8 x9 x10 x11 x12 x13 x14 x15 x18 N
          refine lcS_flt _ _ _ _ ?_ (by simp; omega)
          intro j hj
          have hj := List.mem_range.mp hj
          obtain ⟨A, hA⟩ := runOf_fm ss hf s h1 h2 hj
          obtain ⟨B, hB⟩ := runOf_fm ss hf (later b s (1 + (v : Int))) q1 q2 hj
          have eq := eqD_FM A B
          by_cases hab : A = B
          · subst hab; simp at eq; simp [lcB, bindT, setAll, wipeE, Tg.own, idx_code, hA, hB, op2, eq]
          · rw [decide_eq_false hab] at eq; simp [lcB, bindT, setAll, wipeE, Tg.own, idx_code, hA, hB, op2, eq, hab]
        have hcl : (chgd ss (runOf ss s) (runOf ss (later b s (1 + (v : Int))))).length ≤ 9 := by
          unfold chgd; exact Nat.le_trans (List.length_filter_le _ _) (by simp; omega)
        generalize hcg : chgd ss (runOf ss s) (runOf ss (later b s (1 + (v : Int)))) = ch at e92 f1 hcl
        have e73a : ∀ N, callF tbl 20 73 [.v (.lst (ch.map fun (i : Nat) => .int (i : Int))), .v (.lst (ch.map fun (i : Nat) => .int (i : Int)))] N = .ok (.v (.bl true)) N := fun N => e73 T.h73 1 _ (sm_lst (n := 0) _ _ (by omega) (fun i _ => sm_int 0 _)) 18 N
        have fl : fits 20 (.lst (ch.map fun (i : Nat) => .int (i : Int))) = true := fits_lst (fits_all _ _ fun i _ => fits_int 19 _)
        have ne : eqD (.lst (ch.map fun (i : Nat) => .int (i : Int))) (.str "sizes") = some false := by
          have : eqD (.lst (ch.map fun (i : Nat) => .int (i : Int))) (.str "sizes") = if (fits 20 (.lst (ch.map fun (i : Nat) => .int (i : Int))) && fits 20 (.str "sizes")) = true then some (eqB (.lst (ch.map fun (i : Nat) => .int (i : Int))) (.str "sizes")) else none := rfl
          rw [this, fl, show fits 20 (.str "sizes") = true from by decide +kernel]; rfl
        have c1 : (-1000000 : Int) < ss.length := by omega
        have c2 : (ss.length : Int) < 1000000 := by omega
        obtain ⟨y9, ef⟩ := fin08 T n0 S i ss hf fs hfs (later b s (1 + (v : Int))) (past ++ [s]) ⟨q1, q2, hk2⟩ (by simp; omega) d3 (some (.v (.int p))) x9 x10 x11 (some (.v (.int (1 + (v : Int))))) (some (.v (sW b "a" "b"))) (some (.v (dP (later b s (1 + (v : Int)))))) (some (.v (.lst (ch.map fun (i : Nat) => .int (i : Int))))) (some (.v (dKB dFM (runOf ss s).fm))) (some (.v (dKB dFM (runOf ss (later b s (1 + (v : Int)))).fm))) x18
        refine ⟨d3, later b s (1 + (v : Int)), past ++ [s], some (.v (.int p)), y9, x10, x11, some (.v (.int (1 + (v : Int)))), some (.v (sW b "a" "b")), some (.v (dP (later b s (1 + (v : Int))))), some (.v (.lst (ch.map fun (i : Nat) => .int (i : Int)))), some (.v (dKB dFM (runOf ss s).fm)), some (.v (dKB dFM (runOf ss (later b s (1 + (v : Int)))).fm)), x18, g3, ?_, by simp, ?_⟩
        · intro a ha
          rcases List.mem_cons.mp ha with rfl | ha
          · exact ⟨q1, q2, hk2⟩
          · rcases List.mem_append.mp ha with ha | ha
            · exact hz a (by simp [ha])
            · simp at ha; subst ha; exact hz a (by simp)
        have ap : op2 .add (.lst ((past ++ [s]).map dP)) (.lst [dP (later b s (1 + (v : Int)))]) = some (.lst ((past ++ [s] ++ [later b s (1 + (v : Int))]).map dP)) := by
          rw [op2, if_pos (by simp; omega)]; simp
        have op_ne : ∀ x y : D, op2 .ne x y = (eqD x y).map fun k => .bl !k := fun _ _ => rfl
        have op_eq : ∀ x y : Int, op2 .eq (.int x) (.int y) = some (.bl (x == y)) := fun _ _ => rfl
        have op_ad : ∀ x y : Int, op2 .add (.int x) (.int y) = some (.int (x + y)) := fun _ _ => rfl
        generalize (past ++ [s] ++ [later b s (1 + (v : Int))]).map dP = L2 at *
        generalize (past ++ [s]).map dP = L at *
        generalize later b s (1 + (v : Int)) = lt at *
        simp [b0_eq, e1, op_ne, op_eq, op_ad, p0', p1', e2, e3, e14, e79, hk2, il, e87, e87b, ixr1, len_stps, c1, c2, f1, e92, e73a, ne, ap, ef, -evE_ite]
theorem l98 (T : T08 tbl) (n0 : Nat) (S : W) (ss : List Stp) (hf : StpsFit ss) (fs : List Fct) (hfs : ∀ f ∈ fs, fctOk f) : ∀ (is : List D) (s : Int × Int) (past : List (Int × Int)), (∀ z ∈ s :: past, PZ fs z) → past.length + is.length ≤ 900 → ∀ (d : D), Good d → ∀ (x7 x8 x9 x10 x11 x12 x13 x14 x15 x16 x17 x18 : Option W), ∃ (d' : D) (s' : Int × Int) (past' : List (Int × Int)) (y7 y8 y9 y10 y11 y12 y13 y14 y15 y16 y17 y18 : Option W), Good d' ∧
    loopS (callF tbl 20) n0 (.v 7) f98_b0 is [some S, some (.c 0), some (.v (dStps ss)), some (.v (dFcts fs)), some (.v (dPlan ss fs)), some (.v (.lst ((past ++ [s]).map dP))), some (.c 1), x7, x8, x9, x10, x11, x12, x13, x14, x15, x16, x17, x18] [d, dMod ss fs s past] = .nx [some S, some (.c 0), some (.v (dStps ss)), some (.v (dFcts fs)), some (.v (dPlan ss fs)), some (.v (.lst ((past' ++ [s']).map dP))), some (.c 1), y7, y8, y9, y10, y11, y12, y13, y14, y15, y16, y17, y18] [d', dMod ss fs s' past']
  | [], s, past, hz, hl, d, hd, x7, x8, x9, x10, x11, x12, x13, x14, x15, x16, x17, x18 => ⟨d, s, past, x7, x8, x9, x10, x11, x12, x13, x14, x15, x16, x17, x18, hd, rfl⟩
  | i :: is, s, past, hz, hl, d, hd, x7, x8, x9, x10, x11, x12, x13, x14, x15, x16, x17, x18 => by
    rw [List.length_cons] at hl
    obtain ⟨d1, s1, p1, y8, y9, y10, y11, y12, y13, y14, y15, y16, y17, y18, g1, hz1, hl1, e1⟩ := b98 T n0 S i ss hf fs hfs s past hz (by omega) hd x8 x9 x10 x11 x12 x13 x14 x15 x16 x17 x18
    obtain ⟨d2, s2, p2, z7, z8, z9, z10, z11, z12, z13, z14, z15, z16, z17, z18, g2, e2⟩ := l98 T n0 S ss hf fs hfs is s1 p1 hz1 (by omega) d1 g1 (some (.v i)) y8 y9 y10 y11 y12 y13 y14 y15 y16 y17 y18
    exact ⟨d2, s2, p2, z7, z8, z9, z10, z11, z12, z13, z14, z15, z16, z17, z18, g2, by rw [loopS_nx (v2 := _) (by rfl) e1, e2]⟩
theorem law08 (T : T08 tbl) (ns : List Int) (hn : ns.length ≤ 63) : ∃ M, callF tbl (20 + 1) 98 [.v (.scr ns)] [] = .ok (.v (.bl true)) M := by
  obtain ⟨xs, g0, e70⟩ := c70 T.toTR 19 ns hn 378
  obtain ⟨n, d1, hn6, g1, e71⟩ := c71n T.toTR 19 6 (by omega) (by omega) g0
  have e71 : ∀ M, callF tbl 20 71 [.c 0, .v (.int 6)] (D.lst xs :: M) = .ok (.v (.int n)) (d1 :: M) := e71
  obtain ⟨ss, d2, q1, q2, g2, e76⟩ := c76 T.toTR 16 n (by omega) g1
  obtain ⟨fs, d3, hfs, g3, e77⟩ := c77s T.toTR 17 g2
  obtain ⟨hfs, sz, hsz, hks⟩ := hfs
  obtain ⟨hok, hfit⟩ := fit_of q1 (by omega) q2
  have e6a : ∀ d4 : D, callF tbl 20 6 [.c 1, .v (dStps ss), .v (dFcts fs)] [d4, .ins 10 [] []] = .ok (.v .non) [d4, dPlan ss fs] := fun d4 => c6 (M := [d4]) T.toTP 16 ss hok fs hfs
  have em1 : ∀ (d4 : D) ss fs, madeV 1 (.ok (.v .non) [d4, dPlan ss fs]) = .ok (.v (dPlan ss fs)) [d4] := fun d4 ss fs => by simp [madeV, dPlan]
  have e80 : ∀ N, callF tbl 20 80 [.v (dFcts fs), .v (.int 6)] N = .ok (.v (.lst ((allS fs 6).map dP))) N := fun N => c80 T.toTL T.h80 17 fs hfs.2 6 (by omega)
  have hne : allS fs 6 ≠ [] := by
    intro e
    have : sz ∈ allS fs 6 := mem_allS.mpr ⟨by omega, hks⟩
    rw [e] at this; cases this
  have hln : (allS fs 6).length ≤ 36 := allS_len fs 6
  obtain ⟨s, d4, hs, g4, e72⟩ := c72c T.toTR 18 dP (allS fs 6) _ rfl hne (by omega) g3
  have e72 : ∀ M, callF tbl 20 72 [.c 0, .v (.lst ((allS fs 6).map dP))] (d3 :: M) = .ok (.v (dP s)) (d4 :: M) := e72
  obtain ⟨p1, p2⟩ := allS_pos hs
  have hk := (mem_allS.mp hs).2
  have e44 : callF tbl 20 44 [.c 1, .v (dPlan ss fs), .v (dP s)] [d4, .ins 12 [] []] = .ok (.v .non) [d4, dMod ss fs s []] := c44 (M := [d4]) T.toTM 15 hfs.2 p1 p2 hk
  obtain ⟨m, d5, hm, g5, e71b⟩ := c71n T.toTR 19 15 (by omega) (by omega) g4
  have e71b : ∀ M, callF tbl 20 71 [.c 0, .v (.int 15)] (d4 :: M) = .ok (.v (.int m)) (d5 :: M) := e71b
  obtain ⟨d6, s', past', y7, y8, y9, y10, y11, y12, y13, y14, y15, y16, y17, y18, g6, el⟩ := l98 T 0 (.v (.scr ns)) ss hfit fs hfs.2 ((List.range m).map fun (i : Nat) => .int (i : Int)) s [] (fun z hz => by simp at hz; subst hz; exact ⟨p1, p2, hk⟩) (by simp; omega) d5 g5 none none none none none none none none none none none none
  obtain ⟨y, d7, hy, g7, e72c⟩ := c72 T.toTR 18 [.non, .tup [.int 0, .int 1], .tup [.int 1], .lst [.int 1, .int 1], .tup [.int 1, .bl true], .str "ab"] (by simp) (by simp) g6
  have e72c : ∀ M, callF tbl 20 72 [.c 0, .v (.lst [.non, .tup [.int 0, .int 1], .tup [.int 1], .lst [.int 1, .int 1], .tup [.int 1, .bl true], .str "ab"])] (d6 :: M) = .ok (.v y) (d7 :: M) := e72c
  have hyy : fits 20 y = true ∧ okSz fs y = false := by
    simp only [List.mem_cons, List.not_mem_nil, or_false] at hy
    rcases hy with rfl | rfl | rfl | rfl | rfl | rfl <;> refine ⟨by decide +kernel, ?_⟩ <;> simp [okSz]
  have e91 : ∀ N, callF tbl 20 91 [.v (dPlan ss fs), .v y] N = _ := fun N => c91 (M := N) T hfs.2 y hyy.1 hyy.2
  have i0 : idxD (.lst [dP s]) (.int 0) = some (dP s) := rfl
  have c1 : (-1000000 : Int) < m := by omega
  have c2 : (m : Int) < 1000000 := by omega
  simp at el
  refine ⟨[], ?_⟩
  rw [cfl T.h98]
  simp [f98, e70, e71, e76, e77, e6a, em1, e80, e72, i0, e44, e71b, c1, c2, el, e72c, e91]
end
end P
end Bf

set_option Elab.async false
set_option linter.all false
set_option maxRecDepth 100000
set_option maxHeartbeats 0
namespace Bf
open PySem PySem.Spec PyProof.Rows L2
def top (i : Nat) : Stmt := PySem.Challenge.pw_barfaces_k08_whole_models.main.body.getD i (.Pass ⟨0, 0, 0, 0⟩)
def r0 : Row := ⟨0, ⟨("is_between", none), "is_between", "is_between", defArgs (top 20), defBody (top 20), defScope (top 20), [], []⟩, ["value", "least", "most"], ["value", "least", "most"], f0⟩
def r1 : Row := ⟨1, ⟨("is_one_of", none), "is_one_of", "is_one_of", defArgs (top 21), defBody (top 21), defScope (top 21), [], []⟩, ["value", "some"], ["value", "some"], f1⟩
def r2 : Row := ⟨2, ⟨("is_length", none), "is_length", "is_length", defArgs (top 22), defBody (top 22), defScope (top 22), [], []⟩, ["value", "many"], ["value"], f2⟩
def r3 : Row := ⟨3, ⟨("is_name", none), "is_name", "is_name", defArgs (top 23), defBody (top 23), defScope (top 23), [], []⟩, ["value", "index", "word", "rest"], ["value", "index"], f3⟩
def r4 : Row := ⟨4, ⟨("is_step", none), "is_step", "is_step", defArgs (top 24), defBody (top 24), defScope (top 24), [], []⟩, ["value", "index"], ["value", "index"], f4⟩
def r5 : Row := ⟨5, ⟨("is_fact", none), "is_fact", "is_fact", defArgs (top 25), defBody (top 25), defScope (top 25), [], []⟩, ["value"], ["value"], f5⟩
def r6 : Row := ⟨6, ⟨("Plan", some "__init__"), "__init__", "Plan.__init__", defArgs (inClass (top 26) 0), defBody (inClass (top 26) 0), defScope (inClass (top 26) 0), [], []⟩, ["self", "steps", "facts", "index", "step", "fact"], ["self", "steps", "facts"], f6⟩
def r7 : Row := ⟨7, ⟨("long_at", none), "long_at", "long_at", defArgs (top 27), defBody (top 27), defScope (top 27), [], []⟩, ["length", "sizes"], ["length", "sizes"], f7⟩
def r8 : Row := ⟨8, ⟨("keeps", none), "keeps", "keeps", defArgs (top 28), defBody (top 28), defScope (top 28), [], []⟩, ["facts", "sizes", "word", "one", "other", "near", "far"], ["facts", "sizes"], f8⟩
def r9 : Row := ⟨9, ⟨("is_sizes", none), "is_sizes", "is_sizes", defArgs (top 30), defBody (top 30), defScope (top 30), [], []⟩, ["plan", "value", "size"], ["plan", "value"], f9⟩
def r10 : Row := ⟨10, ⟨("need_sizes", none), "need_sizes", "need_sizes", defArgs (top 31), defBody (top 31), defScope (top 31), [], []⟩, ["plan", "value"], ["plan", "value"], f10⟩
def r11 : Row := ⟨11, ⟨("added", none), "added", "added", defArgs (top 32), defBody (top 32), defScope (top 32), [], []⟩, ["pieces", "low", "high", "found", "left", "right"], ["pieces", "low", "high"], f11⟩
def r12 : Row := ⟨12, ⟨("taken", none), "taken", "taken", defArgs (top 33), defBody (top 33), defScope (top 33), [], []⟩, ["pieces", "low", "high", "found", "left", "right"], ["pieces", "low", "high"], f12⟩
def r13 : Row := ⟨13, ⟨("Run", some "__init__"), "__init__", "Run.__init__", defArgs (inClass (top 34) 0), defBody (inClass (top 34) 0), defScope (inClass (top 34) 0), [], []⟩, ["self", "steps", "sizes", "order", "index", "place", "word", "name", "way", "length", "face"], ["self", "steps", "sizes", "order"], f13⟩
def r14 : Row := ⟨14, ⟨("Run", some "faces"), "faces", "Run.faces", defArgs (inClass (top 34) 1), defBody (inClass (top 34) 1), defScope (inClass (top 34) 1), [], []⟩, ["self", "piece", "place"], ["self"], f14⟩
def r15 : Row := ⟨15, ⟨("Run", some "marks_at"), "marks_at", "Run.marks_at", defArgs (inClass (top 34) 2), defBody (inClass (top 34) 2), defScope (inClass (top 34) 2), [], []⟩, ["self", "place", "found", "index", "bar"], ["self", "place"], f15⟩
def r16 : Row := ⟨16, ⟨("Run", some "place_of"), "place_of", "Run.place_of", defArgs (inClass (top 34) 3), defBody (inClass (top 34) 3), defScope (inClass (top 34) 3), [], []⟩, ["self", "name", "faces", "some", "near", "far", "place", "face"], ["self", "name"], f16⟩
def r17 : Row := ⟨17, ⟨("Run", some "do"), "do", "Run.do", defArgs (inClass (top 34) 4), defBody (inClass (top 34) 4), defScope (inClass (top 34) 4), [], []⟩, ["self", "index", "word", "place", "way", "low", "high"], ["self", "index", "word", "place", "way"], f17⟩
def r18 : Row := ⟨18, ⟨("run_of", none), "run_of", "run_of", defArgs (top 35), defBody (top 35), defScope (top 35), [], []⟩, ["plan", "sizes"], ["plan", "sizes"], f18⟩
def r21 : Row := ⟨21, ⟨("named_in", none), "named_in", "named_in", defArgs (top 40), defBody (top 40), defScope (top 40), [], []⟩, ["plan", "sizes", "run", "index"], ["plan", "sizes"], f21⟩
def r44 : Row := ⟨44, ⟨("Model", some "__init__"), "__init__", "Model.__init__", defArgs (inClass (top 42) 0), defBody (inClass (top 42) 0), defScope (inClass (top 42) 0), [], []⟩, ["self", "plan", "sizes"], ["self", "plan", "sizes"], f44⟩
def r45 : Row := ⟨45, ⟨("Model", some "turn"), "turn", "Model.turn", defArgs (inClass (top 42) 1), defBody (inClass (top 42) 1), defScope (inClass (top 42) 1), [], []⟩, ["self", "size", "value", "later", "here", "there", "index", "marks"], ["self", "size", "value"], f45⟩
def r46 : Row := ⟨46, ⟨("Model", some "sizes"), "sizes", "Model.sizes", defArgs (inClass (top 42) 2), defBody (inClass (top 42) 2), defScope (inClass (top 42) 2), [], []⟩, ["self"], ["self"], f46⟩
def r47 : Row := ⟨47, ⟨("Model", some "drawn"), "drawn", "Model.drawn", defArgs (inClass (top 42) 3), defBody (inClass (top 42) 3), defScope (inClass (top 42) 3), [], []⟩, ["self"], ["self"], f47⟩
def r48 : Row := ⟨48, ⟨("Model", some "done"), "done", "Model.done", defArgs (inClass (top 42) 4), defBody (inClass (top 42) 4), defScope (inClass (top 42) 4), [], []⟩, ["self"], ["self"], f48⟩
def r49 : Row := ⟨49, ⟨("Model", some "undo"), "undo", "Model.undo", defArgs (inClass (top 42) 5), defBody (inClass (top 42) 5), defScope (inClass (top 42) 5), [], []⟩, ["self"], ["self"], f49⟩
def r50 : Row := ⟨50, ⟨("Model", some "__len__"), "__len__", "Model.__len__", defArgs (inClass (top 42) 6), defBody (inClass (top 42) 6), defScope (inClass (top 42) 6), [], []⟩, ["self"], ["self"], f50⟩
def r70 : Row := ⟨70, ⟨("_law_random", none), "_law_random", "_law_random", defArgs (top 44), defBody (top 44), defScope (top 44), [], []⟩, ["_law_script", "_law_salt", "_law_seed", "_law_cell"], ["_law_script", "_law_salt"], f70⟩
def r71 : Row := ⟨71, ⟨("_law_below", none), "_law_below", "_law_below", defArgs (top 45), defBody (top 45), defScope (top 45), [], []⟩, ["_law_d", "_law_size", "_law_result"], ["_law_d", "_law_size"], f71⟩
def r72 : Row := ⟨72, ⟨("_law_pick", none), "_law_pick", "_law_pick", defArgs (top 46), defBody (top 46), defScope (top 46), [], []⟩, ["_law_d", "_law_items"], ["_law_d", "_law_items"], f72⟩
def r73 : Row := ⟨73, ⟨("_law_equal", none), "_law_equal", "_law_equal", defArgs (top 47), defBody (top 47), defScope (top 47), [], []⟩, ["_law_actual", "_law_expected", "_law_k", "_law_key"], ["_law_actual", "_law_expected"], f73⟩
def r74 : Row := ⟨74, ⟨("_law_length", none), "_law_length", "_law_length", defArgs (top 48), defBody (top 48), defScope (top 48), [], []⟩, ["_law_d"], ["_law_d"], f74⟩
def r75 : Row := ⟨75, ⟨("_law_name", none), "_law_name", "_law_name", defArgs (top 49), defBody (top 49), defScope (top 49), [], []⟩, ["_law_d", "_law_index", "_law_pick_here", "_law_j"], ["_law_d", "_law_index"], f75⟩
def r76 : Row := ⟨76, ⟨("_law_steps", none), "_law_steps", "_law_steps", defArgs (top 50), defBody (top 50), defScope (top 50), [], []⟩, ["_law_d", "_law_many", "_law_found", "_law_index", "_law_word"], ["_law_d", "_law_many"], f76⟩
def r77 : Row := ⟨77, ⟨("_law_facts", none), "_law_facts", "_law_facts", defArgs (top 51), defBody (top 51), defScope (top 51), [], []⟩, ["_law_d", "_law_some"], ["_law_d"], f77⟩
def r78 : Row := ⟨78, ⟨("_law_long", none), "_law_long", "_law_long", defArgs (top 52), defBody (top 52), defScope (top 52), [], []⟩, ["_law_length_here", "_law_sizes_here"], ["_law_length_here", "_law_sizes_here"], f78⟩
def r79 : Row := ⟨79, ⟨("_law_keeps", none), "_law_keeps", "_law_keeps", defArgs (top 53), defBody (top 53), defScope (top 53), [], []⟩, ["_law_facts_here", "_law_sizes_here", "_law_word", "_law_one", "_law_other", "_law_more"], ["_law_facts_here", "_law_sizes_here"], f79⟩
def r80 : Row := ⟨80, ⟨("_law_sizes", none), "_law_sizes", "_law_sizes", defArgs (top 54), defBody (top 54), defScope (top 54), [], []⟩, ["_law_facts_here", "_law_most", "_law_found", "_law_total", "_law_one"], ["_law_facts_here", "_law_most"], f80⟩
def r81 : Row := ⟨81, ⟨("_law_covers", none), "_law_covers", "_law_covers", defArgs (top 55), defBody (top 55), defScope (top 55), [], []⟩, ["_law_bars", "_law_twice", "_law_index", "_law_word", "_law_near", "_law_far"], ["_law_bars", "_law_twice"], f81⟩
def r82 : Row := ⟨82, ⟨("_law_faces", none), "_law_faces", "_law_faces", defArgs (top 56), defBody (top 56), defScope (top 56), [], []⟩, ["_law_bars", "_law_ends", "_law_place", "_law_index"], ["_law_bars"], f82⟩
def r83 : Row := ⟨83, ⟨("_law_marks", none), "_law_marks", "_law_marks", defArgs (top 57), defBody (top 57), defScope (top 57), [], []⟩, ["_law_bars", "_law_place", "_law_found", "_law_index", "_law_word", "_law_near", "_law_far", "_law_which", "_law_end"], ["_law_bars", "_law_place"], f83⟩
def r84 : Row := ⟨84, ⟨("_law_finds", none), "_law_finds", "_law_finds", defArgs (top 58), defBody (top 58), defScope (top 58), [], []⟩, ["_law_bars", "_law_name_here", "_law_faces_here", "_law_far", "_law_some", "_law_at", "_law_place", "_law_face"], ["_law_bars", "_law_name_here"], f84⟩
def r85 : Row := ⟨85, ⟨("_law_run", none), "_law_run", "_law_run", defArgs (top 59), defBody (top 59), defScope (top 59), [], []⟩, ["_law_steps_here", "_law_sizes_here", "_law_order", "_law_bars", "_law_names", "_law_marks_here", "_law_index", "_law_place", "_law_word", "_law_name_here", "_law_way", "_law_length_here", "_law_far", "_law_face"], ["_law_steps_here", "_law_sizes_here", "_law_order"], f85⟩
def r86 : Row := ⟨86, ⟨("_law_drawing", none), "_law_drawing", "_law_drawing", defArgs (top 60), defBody (top 60), defScope (top 60), [], []⟩, ["_law_bars", "_law_faces_here", "_law_k"], ["_law_bars"], f86⟩
def r87 : Row := ⟨87, ⟨("_law_whole", none), "_law_whole", "_law_whole", defArgs (top 61), defBody (top 61), defScope (top 61), [], []⟩, ["_law_steps_here", "_law_sizes_here"], ["_law_steps_here", "_law_sizes_here"], f87⟩
def r92 : Row := ⟨92, ⟨("_law_told", none), "_law_told", "_law_told", defArgs (top 62), defBody (top 62), defScope (top 62), [], []⟩, ["_law_model", "_law_size", "_law_value", "_law_told_here"], ["_law_model", "_law_size", "_law_value"], f92⟩
def r91 : Row := ⟨91, ⟨("_law_bad", none), "_law_bad", "_law_bad", defArgs (top 63), defBody (top 63), defScope (top 63), [], []⟩, ["_law_plan", "_law_value", "_law_told_here"], ["_law_plan", "_law_value"], f91⟩
def r98 : Row := ⟨98, ⟨("law", none), "law", "law", defArgs (top 64), defBody (top 64), defScope (top 64), [], []⟩, ["_law_script", "_law_d", "_law_steps_here", "_law_facts_here", "_law_plan", "_law_past", "_law_model", "_law_k", "_law_pick_here", "_law_bars", "_law_odd", "_law_bad_here", "_law_value", "_law_size", "_law_later", "_law_due", "_law_here", "_law_there", "_law_index"], ["_law_script"], f98⟩
def r60 : Row := ⟨60, ⟨("drawn_drawing", none), "drawn", "drawn", defArgs (top 36), defBody (top 36), defScope (top 36), [], []⟩, ["plan", "sizes"], ["plan", "sizes"], f60⟩
def r61 : Row := ⟨61, ⟨("done_drawing", none), "done", "done", defArgs (top 38), defBody (top 38), defScope (top 38), [], []⟩, ["plan", "sizes", "run", "index"], ["plan", "sizes"], f61⟩
def rows : List Row := [r0, r1, r2, r3, r4, r5, r6, r7, r8, r9, r10, r11, r12, r13, r14, r15, r16, r17, r18, r21, r44, r45, r46, r47, r48, r49, r50, r70, r71, r72, r73, r74, r75, r76, r77, r78, r79, r80, r81, r82, r83, r84, r85, r86, r87, r92, r91, r98, r60, r61]
def fa0 : List He.Fa := [.glo "is_between", .glo "is_one_of", .glo "is_length", .glo "is_name", .glo "is_step", .glo "is_fact", .glo "long_at", .glo "keeps", .glo "is_sizes", .glo "need_sizes", .glo "added", .glo "taken", .glo "run_of", .glo "named_in", .glo "_law_random", .glo "_law_below", .glo "_law_pick", .glo "_law_equal", .glo "_law_length", .glo "_law_name", .glo "_law_steps", .glo "_law_facts", .glo "_law_long", .glo "_law_keeps", .glo "_law_sizes", .glo "_law_covers", .glo "_law_faces", .glo "_law_marks", .glo "_law_finds", .glo "_law_run", .glo "_law_drawing", .glo "_law_whole", .glo "_law_told", .glo "_law_bad", .glo "law", .glo "drawn_drawing", .glo "done_drawing", .keep "is_between", .keep "is_one_of", .keep "is_length"]
def fa1 : List He.Fa := [.keep "is_name", .keep "is_step", .keep "is_fact", .keep "long_at", .keep "keeps", .keep "is_sizes", .keep "need_sizes", .keep "added", .keep "taken", .keep "run_of", .keep "named_in", .keep "_law_random", .keep "_law_below", .keep "_law_pick", .keep "_law_equal", .keep "_law_length", .keep "_law_name", .keep "_law_steps", .keep "_law_facts", .keep "_law_long", .keep "_law_keeps", .keep "_law_sizes", .keep "_law_covers", .keep "_law_faces", .keep "_law_marks", .keep "_law_finds", .keep "_law_run", .keep "_law_drawing", .keep "_law_whole", .keep "_law_told", .keep "_law_bad", .keep "law", .keep "drawn_drawing", .keep "done_drawing", .free "len", .free "sorted", .free "list", .free "tuple", .free "range", .free "isinstance"]
def fa2 : List He.Fa := [.free "all", .free "min", .free "max", .free "int", .free "str", .free "bool", .free "abs", .free "enumerate", .free "set", .free "dict", .glo "Plan", .mkr "Plan", .cls "Plan", .noat "Plan" "own_steps", .noat "Plan" "own_facts", .glo "Run", .mkr "Run", .cls "Run", .noat "Run" "shown", .noat "Run" "bars", .noat "Run" "found_marks", .noat "Run" "holders", .meth "Run" "faces", .meth "Run" "marks_at", .meth "Run" "place_of", .meth "Run" "do", .glo "Model", .mkr "Model", .cls "Model", .noat "Model" "plan_used", .noat "Model" "sizes_now", .noat "Model" "past", .meth "Model" "turn", .meth "Model" "sizes", .meth "Model" "drawn", .meth "Model" "done", .meth "Model" "undo", .meth "Model" "__len__", .glo "BadFacts", .glo "BadSizes"]
def fa3 : List He.Fa := [.glo "BadSize", .exc "BadFacts", .exc "BadSizes", .exc "BadSize", .exm "BadSteps" "BadSize" false, .exm "BadFacts" "BadSize" false, .exm "BadSizes" "BadSize" false, .exm "BadSize" "BadSize" true, .exm "BadSteps" "BadSizes" false, .exm "BadFacts" "BadSizes" false, .exm "BadSizes" "BadSizes" true, .exm "BadSize" "BadSizes" false, .str "ADD" "add", .str "CUT" "cut", .str "LEFT" "left", .str "RIGHT" "right", .str "NEAR" "near", .str "FAR" "far", .str "START" "start", .str "LESS" "less", .str "SAME" "same", .int "MOST_OF_SIZE" 2, .int "MOST_COUNT" 3, .int "MOST_STEPS" 5, .int "MOST_FACTS" 2]
def fa : List He.Fa := fa0 ++ fa1 ++ fa2 ++ fa3
def T : Tb := ⟨rows, fa⟩
theorem ck0 : chkRow T r0 = true := by decide +kernel
theorem ck1 : chkRow T r1 = true := by decide +kernel
theorem ck2 : chkRow T r2 = true := by decide +kernel
theorem ck3 : chkRow T r3 = true := by decide +kernel
theorem ck4 : chkRow T r4 = true := by decide +kernel
theorem ck5 : chkRow T r5 = true := by decide +kernel
theorem ck6 : chkRow T r6 = true := by decide +kernel
theorem ck7 : chkRow T r7 = true := by decide +kernel
theorem ck8 : chkRow T r8 = true := by decide +kernel
theorem ck9 : chkRow T r9 = true := by decide +kernel
theorem ck10 : chkRow T r10 = true := by decide +kernel
theorem ck11 : chkRow T r11 = true := by decide +kernel
theorem ck12 : chkRow T r12 = true := by decide +kernel
theorem ck13 : chkRow T r13 = true := by decide +kernel
theorem ck14 : chkRow T r14 = true := by decide +kernel
theorem ck15 : chkRow T r15 = true := by decide +kernel
theorem ck16 : chkRow T r16 = true := by decide +kernel
theorem ck17 : chkRow T r17 = true := by decide +kernel
theorem ck18 : chkRow T r18 = true := by decide +kernel
theorem ck21 : chkRow T r21 = true := by decide +kernel
theorem ck44 : chkRow T r44 = true := by decide +kernel
theorem ck45 : chkRow T r45 = true := by decide +kernel
theorem ck46 : chkRow T r46 = true := by decide +kernel
theorem ck47 : chkRow T r47 = true := by decide +kernel
theorem ck48 : chkRow T r48 = true := by decide +kernel
theorem ck49 : chkRow T r49 = true := by decide +kernel
theorem ck50 : chkRow T r50 = true := by decide +kernel
theorem ck70 : chkRow T r70 = true := by decide +kernel
theorem ck71 : chkRow T r71 = true := by decide +kernel
theorem ck72 : chkRow T r72 = true := by decide +kernel
theorem ck73 : chkRow T r73 = true := by decide +kernel
theorem ck74 : chkRow T r74 = true := by decide +kernel
theorem ck75 : chkRow T r75 = true := by decide +kernel
theorem ck76 : chkRow T r76 = true := by decide +kernel
theorem ck77 : chkRow T r77 = true := by decide +kernel
theorem ck78 : chkRow T r78 = true := by decide +kernel
theorem ck79 : chkRow T r79 = true := by decide +kernel
theorem ck80 : chkRow T r80 = true := by decide +kernel
theorem ck81 : chkRow T r81 = true := by decide +kernel
theorem ck82 : chkRow T r82 = true := by decide +kernel
theorem ck83 : chkRow T r83 = true := by decide +kernel
theorem ck84 : chkRow T r84 = true := by decide +kernel
theorem ck85 : chkRow T r85 = true := by decide +kernel
theorem ck86 : chkRow T r86 = true := by decide +kernel
theorem ck87 : chkRow T r87 = true := by decide +kernel
theorem ck92 : chkRow T r92 = true := by decide +kernel
theorem ck91 : chkRow T r91 = true := by decide +kernel
theorem ck98 : chkRow T r98 = true := by decide +kernel
theorem ck60 : chkRow T r60 = true := by decide +kernel
theorem ck61 : chkRow T r61 = true := by decide +kernel
theorem chk : (T.rows.all (chkRow T)) = true := by
  show (rows.all (chkRow T)) = true
  unfold rows
  rw [List.all_eq_true]
  intro r hr
  simp only [List.mem_cons, List.not_mem_nil, or_false] at hr
  rcases hr with rfl | rfl | rfl | rfl | rfl | rfl | rfl | rfl | rfl | rfl | rfl | rfl | rfl | rfl | rfl | rfl | rfl | rfl | rfl | rfl | rfl | rfl | rfl | rfl | rfl | rfl | rfl | rfl | rfl | rfl | rfl | rfl | rfl | rfl | rfl | rfl | rfl | rfl | rfl | rfl | rfl | rfl | rfl | rfl | rfl | rfl | rfl | rfl | rfl | rfl
  · exact ck0
  · exact ck1
  · exact ck2
  · exact ck3
  · exact ck4
  · exact ck5
  · exact ck6
  · exact ck7
  · exact ck8
  · exact ck9
  · exact ck10
  · exact ck11
  · exact ck12
  · exact ck13
  · exact ck14
  · exact ck15
  · exact ck16
  · exact ck17
  · exact ck18
  · exact ck21
  · exact ck44
  · exact ck45
  · exact ck46
  · exact ck47
  · exact ck48
  · exact ck49
  · exact ck50
  · exact ck70
  · exact ck71
  · exact ck72
  · exact ck73
  · exact ck74
  · exact ck75
  · exact ck76
  · exact ck77
  · exact ck78
  · exact ck79
  · exact ck80
  · exact ck81
  · exact ck82
  · exact ck83
  · exact ck84
  · exact ck85
  · exact ck86
  · exact ck87
  · exact ck92
  · exact ck91
  · exact ck98
  · exact ck60
  · exact ck61
def ln0 : List PySem.Str := ["FaceError", "BadSteps", "BadFacts", "BadSizes", "BadSize", "ADD", "CUT", "LEFT", "RIGHT", "NEAR", "FAR", "START", "LESS", "SAME", "MOST_OF_SIZE", "MOST_COUNT", "MOST_STEPS", "MOST_FACTS", "is_between", "is_one_of", "is_length", "is_name", "is_step", "is_fact", "Plan"]
def ln1 : List PySem.Str := ["long_at", "keeps", "is_sizes", "need_sizes", "added", "taken", "Run", "run_of", "drawn", "drawn_drawing", "done", "done_drawing", "named_in", "Model", "_law_random", "_law_below", "_law_pick", "_law_equal", "_law_length", "_law_name", "_law_steps", "_law_facts", "_law_long", "_law_keeps", "_law_sizes"]
def ln2 : List PySem.Str := ["_law_covers", "_law_faces", "_law_marks", "_law_finds", "_law_run", "_law_drawing", "_law_whole", "_law_told", "_law_bad"]
def ln : List PySem.Str := ln0 ++ ln1 ++ ln2
end Bf

set_option Elab.async false
set_option linter.all false
set_option maxRecDepth 100000
set_option maxHeartbeats 0
namespace Bf
open PySem PySem.Spec PyProof.Rows L2
abbrev R : PySem.W.OpenRow := PySem.W.OpenLaw.row PySem.Challenge.rw_barfaces_k08_whole_models
def fn : List He.DefD := rows.map (·.d)
abbrev hk : PySem.W.Hook := He.hookD 5 fa fn
def ob (s : PySem.W.SharedT) : He.AlD := He.obsDG 5 fa fn (HandSHeadRun.getT s)
theorem ob_eq (s : PySem.W.SharedT) : ob s = hk.obs s.abs := He.obsDG_eq (HandSHeadRun.getT_eq s)
theorem run (w : World) : HandSHeadRun.RunEq R (PySem.W.view R.prog [64]) hk ob 6000 ln w := by
  intro os
  kernel_rfl
end Bf

set_option Elab.async false
set_option linter.all false
set_option maxRecDepth 100000
set_option maxHeartbeats 0
namespace Bf
theorem tabs : P.T08 T.tb := by repeat' (first | rfl | constructor)
theorem hlaw : ∀ ns : List Int, ns.length ≤ 63 → ∃ M, callF T.tb (20 + 1) 98 [.v (.scr ns)] [] = .ok (.v (.bl true)) M := fun ns hn => P.law08 tabs ns hn
end Bf
open PySem PySem.W PySem.Calls PyProof.Rows
theorem PySem.Challenge.cw_barfaces_k08_whole_models_holds : PySem.Challenge.rw_barfaces_k08_whole_models.Holds := by
  w_on; o_law
  refine HandSHeadRun.head_any (r := OpenLaw.row PySem.Challenge.rw_barfaces_k08_whole_models) (q := view (OpenLaw.row PySem.Challenge.rw_barfaces_k08_whole_models).prog [64]) (H := Bf.hk) (ob := Bf.ob) (M := 6000) (loose := Bf.ln) (d := HandSHeadRun.topDef (OpenLaw.row PySem.Challenge.rw_barfaces_k08_whole_models).prog 64) (kwd := []) Bf.ob_eq
    (by kernel_rfl) (fun s => by kernel_rfl) Bf.run (by kernel_rfl) (by kernel_rfl) (by kernel_rfl) (by rfl) (by first | assumption | decide +kernel) (by decide +kernel) ⟨rfl, rfl, rfl, rfl, rfl, by decide +kernel⟩ ?hw ?hc
  case hw => w_witness2
  case hc =>
    refine L2.walk_ofE (l := PySem.Challenge.rw_barfaces_k08_whole_models) (n := 63) (k := 2 * 20 + 2) (x := "_law_script") (CX := L2.CX0) rfl (by decide) (by kernel_rfl) ⟨rfl, by decide, by decide⟩ ?F (fun _ _ _ _ z => z)
    intro w mg fa h Y G hmg0
    obtain ⟨K, KX, c⟩ := Y
    have hmg : mg ("law" : PySem.Str) = some (.ref fa) := by
      have e : (HandSHeadRun.topDef (OpenLaw.row PySem.Challenge.rw_barfaces_k08_whole_models).prog 64).name = ("law" : PySem.Str) := by kernel_rfl
      rw [← e]
      exact hmg0
    have hfa : He.fAd K Bf.r98.d.at_ = fa := by
      obtain ⟨i, hi⟩ := List.mem_iff_getElem?.mp (Bf.Tb.has_mem (T := Bf.T) (f := .glo "law") (by decide +kernel))
      have e := (He.glo_ok KX G (c.fact i hi)).symm.trans hmg
      exact L2.V.noConfusion (congrArg L2.V.ref (by cases e; rfl) : L2.V.ref (He.fAd K Bf.r98.d.at_) = L2.V.ref fa) id
    exact Bf.law_F (T := Bf.T) Bf.chk c KX G (f := 98) (k := 20) (r := Bf.r98) rfl rfl rfl Bf.hlaw hfa
