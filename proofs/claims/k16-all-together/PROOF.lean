import PyProof.Rows.All
import Wide.All
import OpenK.AllK
import Wide.FinOn
import HandS.ForMost
import KE.GoesMore
import HandS.SetFor
import HandS.Strs
import HandS.TupSets
import HandS.TupAny
import HandS.Conv
import HandS.IsInst
import KE.KRevSl
import HandS.ForExc
import HandS.NoneIn
import HandS.Walk
import HandS.Flow
import HandS.Zip
import HandS.Deep
import HandS.Style
import HandS.CallSlots
import KE.KDictKeyed
import KE.SortData
import HandS.Dict
import KE.KDictSum
import KE.KDictCopyH
import KE.DataMinMax
import KE.KDictPairs
import KE.KDictLaw
import HandS.ExcIs
import HandS.HeadHook1
import PyProof.DictRoadsH
import HandS.Ends
import HandS.More
import HandS.Defaults
import HandS.Head0
import HandS.Head1
import HandS.Head2
import HandS.HeadEnd
import HandS.HeadHook2
import HandS.HeadHook3
import HandS.Words
import HandS.WordsExc
import PySem.Challenge.RW_millrows_k16_whole_all_together
set_option Elab.async false
set_option linter.all false
set_option maxRecDepth 100000
set_option maxHeartbeats 0
namespace Ev
open PySem PySem.Spec PyProof.Rows L2
/-- the tuple at a as it stands at each turn, each item in a new pair -/
def Itet (K : PySem.W.Frag) (a : Addr) : It :=
  ⟨fun i H => ∃ (xs : List V) (x : V), SqT K H a xs ∧ xs[i]? = some x, fun i H v H' => ∃ T x, v = .ref T ∧ H T = none ∧ H' = upd H T (.tup [.int (i : Nat), x]) ∧ ∀ xs, SqT K H a xs → xs[i]? = some x, fun i H => ∃ xs : List V, SqT K H a xs ∧ xs.length = i⟩
theorem turn_enumT {P : Program} {w : World} {K : PySem.W.Frag} {elts : List Expr} {kk : Nat} {tpos : Pos} (a e it : Addr) (ha : a ≠ it) (hae : a ≠ e) :
    Turn P w K (.Tuple elts kk tpos) (Itet K a) [e, it] e (fun i h => (∃ old, IsEnum h e it ((i : Nat) : Int) old) ∧ h.IsTupleIter it a i ∧ e ≠ it) where
  mem := by simp
  obj := fun i h st b hb => by
    obtain ⟨⟨old, he⟩, ⟨o, ho, hc, hd⟩, _⟩ := st
    have e' : b = e ∨ b = it := by simpa using hb
    rcases e' with z | z
    · rw [z]; exact ⟨_, he, fun v q => nomatch q⟩
    · rw [z]; exact ⟨o, ho, fun v q => by rw [hd] at q; cases q⟩
  keep := fun i h h' st k => let ⟨⟨old, he⟩, hi, hne⟩ := st; ⟨⟨old, k e (by simp) _ he⟩, hi.at fun o q => k it (by simp) o q, hne⟩
  item := by
    intro X hP hw hK hc i pins s σ H E I hf st hg
    subst hP hw hK
    obtain ⟨⟨old, he⟩, hit, hne⟩ := st
    obtain ⟨xs, x, hq, hx⟩ := hg
    obtain ⟨its, rv, p, hz⟩ := I.tuple hq
    obtain ⟨u, hu, ru⟩ := rv.get hx
    have hel : e < s.heap.objs.size := Heap.lt_size he
    have hil : it < s.heap.objs.size := by obtain ⟨_, q, _⟩ := hit; exact Heap.lt_size q
    have hlt : i < its.toArray.size := by
      have := rv.length
      have h2 : i < xs.length := (List.getElem?_eq_some_iff.mp hx).1
      simp; omega
    have D := Draws.tuple (prog := X.prog) (w := X.w) (A := X.A.in1) (I.ok.hd hc) it a ha its.toArray
    refine wpAny_pyNext_enum_itemD D he ⟨hit, p⟩ hlt hne (by simpa using ⟨hne, Ne.symm hae⟩) fun x' h' tk hx' ho hit' hT hsz hk => ?_
    have ex : x' = u := by
      have h3 : its.toArray[i]? = some u := by simpa using hu
      exact Option.some.inj (hx'.symm.trans h3)
    subst ex
    refine ⟨_, rfl, wpAny_letOwnedTupleGo_enum (s := { s with heap := h', toks := tk + 1 }) ho fun h'' he' sb => ?_⟩
    have hT2 : h''.get? s.heap.objs.size = some { cls := .type "tuple", data := .seq #[.int i tk, x'] } := (sb.2 _ (Nat.ne_of_gt hel)).trans hT
    have new : ObjOk X.prog X.w (upd H s.heap.objs.size (.tup [.int (i : Nat), x])) h'' s.heap.objs.size (.tup [.int (i : Nat), x]) :=
      ⟨by show 2 ≤ sizeLine; decide, [.int i tk, x'], .cons ⟨_, rfl⟩ (.cons ru .nil), ⟨_, hT2, rfl, _, rfl⟩⟩
    have I1 : Inv X pins σ (upd H s.heap.objs.size (.tup [.int (i : Nat), x])) { s with heap := h'', toks := tk + 1 } :=
      I.turnedNew (ch := [e, it]) (fun b ob hb q => (sb.2 b (fun z => hb (by simp [z]))).trans (hk b ob (fun z => hb (by simp [z])) (fun z => hb (by simp [z])) q)) hf (Nat.le_refl _) new
    refine ⟨.ref s.heap.objs.size, _, I1, rfl, ⟨_, x, rfl, I.hok.fresh (Nat.le_refl _), rfl, fun ys hy => by rw [I.tuple_inj hy hq]; exact hx⟩, ⟨⟨x', ?_⟩, hit'.1.at fun o q => (sb.2 it (Ne.symm hne)).trans q, hne⟩, fun b hb => ?_⟩
    · have e1 : ((i + 1 : Nat) : Int) = (i : Int) + 1 := by omega
      rw [e1]; exact he'
    · have hb' : b < s.heap.objs.size := by
        have e' : b = e ∨ b = it := by simpa using hb
        rcases e' with z | z
        · rw [z]; exact hel
        · rw [z]; exact hil
      rw [upd_ne (Nat.ne_of_lt hb')]
      exact (hf b hb).1
  done := by
    intro X hP hw hK hc i pins s σ H E I hf st hg
    subst hP hw hK
    obtain ⟨⟨old, he⟩, hit, hne⟩ := st
    obtain ⟨xs, hq, hx⟩ := hg
    obtain ⟨its, rv, p, hz⟩ := I.tuple hq
    obtain ⟨f0, f1, f2, f3, f4, f5⟩ := hf it (by simp)
    have hl := rv.length
    have D := Draws.tuple (prog := X.prog) (w := X.w) (A := X.A.in1) (I.ok.hd hc) it a ha its.toArray
    have ei : i = its.toArray.size := by simp; omega
    subst ei
    exact wpAny_pyNext_enum_endD D he ⟨hit, p⟩ fun h' eb => ⟨rfl, I.turned (t' := s.toks) (fun b o hb q => eb b o hb q) f0 f1 f3 f4 f5⟩
  self := fun A i s Q E st h => let ⟨⟨_, he⟩, _⟩ := st; wpAny_pyIter_enum he h
theorem meets_enumerate_newB1 {v : Value} {o : Obj} {H : Heap → Prop} (B : Begins v o H) :
    Meets (Builtin.«enumerate.__new__» ⟨[.type "enumerate", v], []⟩) (fun _ R s => H s.heap ∧
      R (.ok (.ret (.ref (s.heap.push o).objs.size)))
        { s with heap := (s.heap.push o).push { cls := .type "enumerate", data := .fields #[.none, .bool false, .ref s.heap.objs.size, rawInt 0, .none, .none] } }) :=
  .of_wp fun prog w A R s h => by
    obtain ⟨hp, g, d, tk, os⟩ := s; obtain ⟨hl, h⟩ := h
    have hsub := sub_enumerate
    have q1 : ∀ {A' : Around} {E : Value → Shared → Prop} {Q : Value → Shared → Prop}, Q (.ref hp.objs.size) ⟨(hp.push o), g, d, tk, os⟩ → wpAny (model prog w) A' (pyIter v) Q E ⟨hp, g, d, tk, os⟩ :=
      fun q => B.iter prog w _ _ ⟨hp, g, d, tk, os⟩ _ hl q
    wp_walk
    refine wpAny_stack_any fun st => wpAny_pure ?_
    split
    · rename_i c _ _ _ _ _
      cases (c == Value.type "enumerate")
      · wp_walk using q1
        exact ⟨_, rfl, h⟩
      · wp_walk using q1
        exact ⟨_, rfl, h⟩
    · wp_walk using q1
      exact ⟨_, rfl, h⟩
theorem call_enumerate_B {prog : Program} {w : World} {A : Around} {E : Value → Shared → Prop} {s : Shared} {v : Value} {o : Obj} {H : Heap → Prop} {Q : Value → Shared → Prop} (B : Begins v o H) (h1 : H s.heap)
    (h : ∀ h', IsEnum h' (s.heap.objs.size + 1) s.heap.objs.size 0 .none → h'.get? s.heap.objs.size = some o → h'.objs.size = s.heap.objs.size + 2 →
      (∀ b o, s.heap.get? b = some o → h'.get? b = some o) → Q (.ref (s.heap.objs.size + 1)) { s with heap := h' }) :
    wpAny (model prog w) A (call (.type "enumerate") [v]) Q E s := by
  refine callType_new F.called_enumerate (by decide) (F.typeCall_enumerate_1 _) (F.newCall_enumerate_1 _) (fun obj => F.args_object_init_2 obj _) F.entry_enumerate_new
    (meets_enumerate_newB1 B) ⟨h1, ?_⟩
  have hz : (s.heap.push o).objs.size = s.heap.objs.size + 1 := Heap.size_push ..
  show _ ∧ _
  rw [hz]
  have he : IsEnum ((s.heap.push o).push
      { cls := .type "enumerate", data := .fields #[.none, .bool false, .ref s.heap.objs.size, rawInt 0, .none, .none] }) (s.heap.objs.size + 1) s.heap.objs.size 0 .none := by
    have := Heap.get?_push_size (s.heap.push o)
      (o := { cls := .type "enumerate", data := .fields #[.none, .bool false, .ref s.heap.objs.size, rawInt 0, .none, .none] }) rfl
    rw [hz] at this; exact this
  refine ⟨⟨_, he, rfl⟩, h _ he (Heap.get?_push_of_some _ (Heap.get?_push_size _ B.free)) (by rw [Heap.size_push, hz]) fun b o x => Heap.get?_push_of_some _ (Heap.get?_push_of_some _ x)⟩
def iEnumT (K : PySem.W.Frag) (ta : TA) : TI := fun σ H R => ta σ H fun vs H1 => ∃ a xs, vs = [.ref a] ∧ SqT K H1 a xs ∧ R (Itet K a) H1
theorem pi_enumT {X : Cx} {e : Expr} {ta : TA} {p pos tpos : Pos} {elts : List Expr} {kk : Nat} (hg : Gl X "enumerate") (hm : X.mg "enumerate" = none) (ha : PA X [e] ta) (hs : starEach [e] X.env = [(false, eval e X.env)] := by rfl) :
    PI X (.Tuple elts kk tpos) (.Call (.Name "enumerate" p) [e] [] pos) (iEnumT X.K ta) := by
  refine ⟨fun pins s σ H R I h => ?_⟩
  refine Call_ (ld_blt I hg hm boot_enumerate (PyProof.Rows.callWith_type1 (thn (ha.run pos pins s σ H _ I h) fun us s1 ⟨vs, H1, I1, r1, q1⟩ => ?_) hs rfl))
  obtain ⟨a, xs, ex, hq, q⟩ := q1
  subst ex
  cases r1 with
  | cons r rr =>
    cases rr
    cases r
    obtain ⟨its, rv, p', hz⟩ := I1.tuple hq
    have hal : a < s1.heap.objs.size := by obtain ⟨_, x, _⟩ := p'; exact Heap.lt_size x
    refine call_enumerate_B (begins_tuple a its.toArray) (show s1.heap.IsTuple a its.toArray from p') fun h' he hit hsz hk => wpAny_pyIter_enum he ?_
    have I2 : Inv X pins σ H1 { s1 with heap := h' } := I1.kept (t' := s1.toks) hk
    refine ⟨s1.heap.objs.size + 1, [s1.heap.objs.size + 1, s1.heap.objs.size], _, _, H1, rfl, I2, turn_enumT a (s1.heap.objs.size + 1) s1.heap.objs.size (Nat.ne_of_lt hal) (Nat.ne_of_lt (Nat.lt_succ_of_lt hal)), ⟨⟨.none, he⟩, ⟨_, hit, rfl, rfl⟩, Nat.succ_ne_self _⟩, fun b hb => ?_, q⟩
    have e' : b = s1.heap.objs.size + 1 ∨ b = s1.heap.objs.size := by simpa using hb
    have hle : s1.heap.objs.size ≤ b := by
      rcases e' with z | z
      · rw [z]; exact Nat.le_add_right _ _
      · rw [z]; exact Nat.le_refl _
    exact I1.fpOk hle (I1.hok.fresh hle)
end Ev

/-! EnS: set(l) of a list of ints, set(t) of a tuple of tuples of ints. -/
namespace Ev
open PySem PySem.Spec L2
open PyProof.Rows hiding St
abbrev setObj0 (w : World) : Obj := { cls := .type "set", dict := none, data := .set #[] 0 (.fresh 0 0 (!w.params.followText "set-order")) }
section
variable {P : Program} {w : World} {A : Around} {E : Value → Shared → Prop} {s : Shared}
/-- set(l), l a list of ints -/
theorem call_set_ints {l : Addr} {items : Array Value} (ns : List Int) {Q : Value → Shared → Prop} (hh : A.handled = none) (hl : s.heap.IsList l items) (hit : IntsAre items.toList ns) (hb : ns.length + 1 < scanBound)
    (h : ∀ (h' : Heap) (tk c : Nat), SetR w h' s.heap.objs.size (fun j => decide (j ∈ ns)) c → c ≤ ns.length → (∀ b o, s.heap.get? b = some o → h'.get? b = some o) → Q (.ref s.heap.objs.size) { s with heap := h', toks := tk }) :
    wpAny (model P w) A (call (.type "set") [.ref l]) Q E s := by
  have hisz : items.size = ns.length := by have q := IntsAre.length hit; rwa [Array.length_toList] at q
  obtain ⟨c0, tl, hmro⟩ := PySem.F.called_set.mro
  have hmade := PySem.F.called_set.made
  have hsub := PySem.F.called_set.sub
  have hnt := PySem.F.called_set.notType
  have hcc := PySem.F.called_set.canCreate
  have hct := PySem.F.typeCall_set_1 (.ref l)
  refine wpAny_call (codeAny_of_tree ?_)
  show wpAny _ _ (callAny (.type "set") _) _ _ _
  refine wpAny_pure ⟨Code.quiet_builtin _ (by decide +kernel), codeAny_builtin PySem.F.entry_type_call ?_⟩
  rw [Around.under_plain (weight_type_call_type "set" [.ref l] []) rfl]
  repeat (any_goals (first | assumption | wp_step))
  refine codeAny_mono (code_set_led1 (.ref l) (E := E) (Q₁ := fun obj s₁ => obj = .ref s.heap.objs.size ∧ s₁ = { s with heap := s.heap.push (setObj0 w) }) ⟨rfl, rfl⟩) fun r s₁ hr => ?_
  cases r with
  | error e => exact hr
  | ok fl =>
    cases fl with
    | ret obj =>
      obtain ⟨rfl, rfl⟩ := hr
      have hS : (s.heap.push (setObj0 w)).get? s.heap.objs.size = some (setObj0 w) := Heap.get?_push_size _ rfl
      have hT : Shared.TypeIs { s with heap := s.heap.push (setObj0 w) } (.ref s.heap.objs.size) "set" := ⟨_, hS, rfl⟩
      have hli := PySem.F.called_set.init.lookup
      have hbi := PySem.F.called_set.init.bind (.ref s.heap.objs.size)
      repeat (any_goals (first | assumption | wp_step))
      let post : Value → Shared → Prop := fun r s₂ => r = .none ∧ ∃ h' tk c, s₂ = { s with heap := h', toks := tk } ∧ SetR w h' s.heap.objs.size (fun j => decide (j ∈ ns)) c ∧ c ≤ ns.length ∧ ∀ b o, s.heap.get? b = some o → h'.get? b = some o
      refine codeAny_mono (codeAny_call_builtin (R := wants post E) PySem.F.called_set.init.plain PySem.F.entry_set_init (check_set_init_1 hT ?_)) fun r₂ s₂ hr₂ => ?_
      · obtain ⟨⟨ocls, odict, odata, oslots⟩, hol, hcl, nl, hdl⟩ := hl
        simp only at hcl hdl
        subst hcl; subst hdl
        have hlS : l < s.heap.objs.size := Heap.lt_size hol
        have hol' : (s.heap.push (setObj0 w)).get? l = some { cls := .type "list", dict := odict, data := .seq items nl, slots := oslots } := Heap.get?_push_of_some _ hol
        have hsls := PySem.F.sub_list_set
        have hslf := PySem.F.sub_list_frozenset
        have hne : (Value.type "list" == Value.type "dict") = false := by decide
        have hl1 : (s.heap.push (setObj0 w)).IsList l items := ⟨_, hol', rfl, nl, rfl⟩
        unfold Builtin.«set.__init__» noKeywords Builtin.Frozenset.updateFrom
        generalize hPI : pyIter = PI
        wp_walk
        subst hPI
        refine wpAny_pyIter_list hl1 ?_
        refine wpAny_bind (wpAny_runValue ?_)
        have hz1 : (s.heap.push (setObj0 w)).objs.size = s.heap.objs.size + 1 := Heap.size_push ..
        have hneI : l ≠ (s.heap.push (setObj0 w)).objs.size := by rw [hz1]; exact Nat.ne_of_lt (Nat.lt_succ_of_lt hlS)
        have hSf : s.heap.objs.size ∉ [(s.heap.push (setObj0 w)).objs.size, l] := by
          rw [hz1]; simp only [List.mem_cons, List.not_mem_nil, or_false, not_or]
          exact ⟨Nat.ne_of_lt (Nat.lt_succ_self _), Nat.ne_of_gt hlS⟩
        have hval : ∀ (i : Nat) (v : Value), items[i]? = some v → ∃ k t, ns[i]? = some k ∧ v = .int k t := fun i v hv => by
          have hi : i < ns.length := by rw [← hisz]; exact (Array.getElem?_eq_some_iff.mp hv).1
          obtain ⟨t, e⟩ := IntsAre.int_at hit i v (by rw [Array.getElem?_toList]; exact hv)
          exact ⟨ns[i], t, List.getElem?_eq_getElem hi, by rw [e, List.getD_eq_getElem?_getD, List.getElem?_eq_getElem hi]; rfl⟩
        refine set_update_ints ((Walks.list (by simp [hh]) _ l hneI items).toS) s.heap.objs.size hSf ns hisz hb hval (items.size - 0) 0 _ (by omega) (Nat.zero_le _) ⟨⟨_, Heap.get?_push_size _ rfl, rfl, rfl⟩, hl1.push _⟩
          ⟨0, Nat.le_refl 0, setR_new_at (Heap.get?_push_of_some _ hS)⟩ fun s' c' hm hc' hS' => ?_
        obtain ⟨h', g2, d', tk', os'⟩ := s'
        obtain rfl : g2 = s.gens := hm.gens
        obtain rfl : d' = s.drawn := hm.drawn
        obtain rfl : os' = s.os := hm.os
        refine wpAny_pure ?_
        show wpAny _ _ (ret Value.none) _ _ _
        refine wpAny_pure ⟨rfl, h', tk', c', rfl, hS', by omega, fun b o e => ?_⟩
        have hb0 : b < s.heap.objs.size := Heap.lt_size e
        exact hm.heap b o (by rw [hz1]; simp only [List.mem_cons, List.not_mem_nil, or_false, not_or]; exact ⟨Nat.ne_of_lt hb0, Nat.ne_of_lt (Nat.lt_succ_of_lt hb0)⟩) (Heap.get?_push_of_some _ (Heap.get?_push_of_some _ e))
      · cases r₂ with
        | error e => exact hr₂
        | ok fl₂ =>
          cases fl₂ with
          | ret r =>
            obtain ⟨rfl, h', tk, c', rfl, hS', hc', hk'⟩ := hr₂
            repeat (any_goals (first | assumption | wp_step))
            exact h _ _ _ hS' hc' hk'
          | _ => exact hr₂.elim
    | _ => exact hr.elim
end
section
variable {P : Program} {w : World} {A : Around} {E : Value → Shared → Prop} {s : Shared}
/-- set(t), t a tuple of tuples of ints -/
theorem call_set_tupT {l : Addr} {items : Array Value} (ks : List (Addr × List Int)) {Q : Value → Shared → Prop} (hh : A.handled = none) (hl : s.heap.IsTuple l items) (hit : items.toList = ks.map fun p => Value.ref p.1) (hk : ∀ p ∈ ks, IsT P w s.heap p.2 p.1) (hfew : ks.length < 64) (hu : A.units + 3 < cLine)
    (h : ∀ (h' : Heap) (tk : Nat) L es ep t, SetTR P w h' s.heap.objs.size L es ep t → Got ks ks.length L → (∀ b o, s.heap.get? b = some o → h'.get? b = some o) → Q (.ref s.heap.objs.size) { s with heap := h', toks := tk }) :
    wpAny (model P w) A (call (.type "set") [.ref l]) Q E s := by
  have hisz : items.size = ks.length := by have q := congrArg List.length hit; simpa using q
  obtain ⟨c0, tl, hmro⟩ := PySem.F.called_set.mro
  have hmade := PySem.F.called_set.made
  have hsub := PySem.F.called_set.sub
  have hnt := PySem.F.called_set.notType
  have hcc := PySem.F.called_set.canCreate
  have hct := PySem.F.typeCall_set_1 (.ref l)
  refine wpAny_call (codeAny_of_tree ?_)
  show wpAny _ _ (callAny (.type "set") _) _ _ _
  refine wpAny_pure ⟨Code.quiet_builtin _ (by decide +kernel), codeAny_builtin PySem.F.entry_type_call ?_⟩
  rw [Around.under_plain (weight_type_call_type "set" [.ref l] []) rfl]
  repeat (any_goals (first | assumption | wp_step))
  refine codeAny_mono (code_set_led1 (.ref l) (E := E) (Q₁ := fun obj s₁ => obj = .ref s.heap.objs.size ∧ s₁ = { s with heap := s.heap.push (setObj0 w) }) ⟨rfl, rfl⟩) fun r s₁ hr => ?_
  cases r with
  | error e => exact hr
  | ok fl =>
    cases fl with
    | ret obj =>
      obtain ⟨rfl, rfl⟩ := hr
      have hS : (s.heap.push (setObj0 w)).get? s.heap.objs.size = some (setObj0 w) := Heap.get?_push_size _ rfl
      have hT : Shared.TypeIs { s with heap := s.heap.push (setObj0 w) } (.ref s.heap.objs.size) "set" := ⟨_, hS, rfl⟩
      have hli := PySem.F.called_set.init.lookup
      have hbi := PySem.F.called_set.init.bind (.ref s.heap.objs.size)
      repeat (any_goals (first | assumption | wp_step))
      let post : Value → Shared → Prop := fun r s₂ => r = .none ∧ ∃ h' tk L es ep t, s₂ = { s with heap := h', toks := tk } ∧ SetTR P w h' s.heap.objs.size L es ep t ∧ Got ks ks.length L ∧ ∀ b o, s.heap.get? b = some o → h'.get? b = some o
      refine codeAny_mono (codeAny_call_builtin (R := wants post E) PySem.F.called_set.init.plain PySem.F.entry_set_init (check_set_init_1 hT ?_)) fun r₂ s₂ hr₂ => ?_
      · obtain ⟨⟨ocls, odict, odata, oslots⟩, hol, hcl, nl, hdl⟩ := hl
        simp only at hcl hdl
        subst hcl; subst hdl
        have hlS : l < s.heap.objs.size := Heap.lt_size hol
        have hol' : (s.heap.push (setObj0 w)).get? l = some { cls := .type "tuple", dict := odict, data := .seq items nl, slots := oslots } := Heap.get?_push_of_some _ hol
        have hsls := PySem.F.sub_tuple_set
        have hslf := PySem.F.sub_tuple_frozenset
        have hne : (Value.type "tuple" == Value.type "dict") = false := by decide
        have hl1 : (s.heap.push (setObj0 w)).IsTuple l items := ⟨_, hol', rfl, nl, rfl⟩
        unfold Builtin.«set.__init__» noKeywords Builtin.Frozenset.updateFrom
        generalize hPI : pyIter = PI
        wp_walk
        subst hPI
        refine wpAny_pyIter_tuple hl1 ?_
        refine wpAny_bind (wpAny_runValue ?_)
        have hz1 : (s.heap.push (setObj0 w)).objs.size = s.heap.objs.size + 1 := Heap.size_push ..
        have hneI : l ≠ (s.heap.push (setObj0 w)).objs.size := by rw [hz1]; exact Nat.ne_of_lt (Nat.lt_succ_of_lt hlS)
        have hSf : s.heap.objs.size ∉ [(s.heap.push (setObj0 w)).objs.size, l] := by
          rw [hz1]; simp only [List.mem_cons, List.not_mem_nil, or_false, not_or]
          exact ⟨Nat.ne_of_lt (Nat.lt_succ_self _), Nat.ne_of_gt hlS⟩
        have hval : ∀ (i : Nat) (v : Value), items[i]? = some v → ∃ p, ks[i]? = some p ∧ v = .ref p.1 := fun i v hv => by
          have q : items.toList[i]? = some v := by rw [Array.getElem?_toList]; exact hv
          rw [hit, List.getElem?_map, Option.map_eq_some_iff] at q
          obtain ⟨p, h1, h2⟩ := q
          exact ⟨p, h1, h2.symm⟩
        have non : ∀ b, s.heap.objs.size ≤ b → s.heap.get? b = none := fun b hb => by
          cases q : s.heap.get? b with
          | none => rfl
          | some o => exact absurd (Nat.lt_of_lt_of_le (Heap.lt_size q) hb) (Nat.lt_irrefl _)
        refine set_update_tups ((Walks.tuple (by simp [hh]) _ l hneI items).toS) s.heap.objs.size hSf ks hisz hfew hval s.heap hk (non _ (Nat.le_refl _)) (fun b hb => non b (by have e := List.mem_singleton.mp hb; rw [e]; rw [hz1]; exact Nat.le_succ _)) hu (items.size - 0) 0 _ (by omega) (Nat.zero_le _)
          ⟨⟨_, Heap.get?_push_size _ rfl, rfl, rfl⟩, hl1.push _⟩ (fun b o e => Heap.get?_push_of_some _ (Heap.get?_push_of_some _ e)) ⟨[], #[], 0, _, setTR_fresh (Heap.get?_push_of_some _ hS), Got.zero ks⟩ fun s' L es ep t hm hS' g' hkp => ?_
        obtain ⟨h', g2, d', tk', os'⟩ := s'
        obtain rfl : g2 = s.gens := hm.gens
        obtain rfl : d' = s.drawn := hm.drawn
        obtain rfl : os' = s.os := hm.os
        refine wpAny_pure ?_
        show wpAny _ _ (ret Value.none) _ _ _
        rw [hisz] at g'
        exact wpAny_pure ⟨rfl, h', tk', L, es, ep, t, rfl, hS', g', hkp⟩
      · cases r₂ with
        | error e => exact hr₂
        | ok fl₂ =>
          cases fl₂ with
          | ret r =>
            obtain ⟨rfl, h', tk, L, es, ep, t, rfl, hS', g', hk'⟩ := hr₂
            repeat (any_goals (first | assumption | wp_step))
            exact h _ _ _ _ _ _ hS' g' hk'
          | _ => exact hr₂.elim
    | _ => exact hr.elim
end
end Ev

/-! EvT: tuples told with their object (no dict in it): displays, tuple(), +, slices, count. -/
namespace Ev
open PySem PySem.Spec L2
open PyProof.Rows hiding St

/-- a tuple whose object is known to have no dict -/
def TupAt (H : Hp) (a : Addr) (vs : List V) : Prop := ∃ o : Obj, H a = some (.frz o (.tup vs)) ∧ o.dict = none
theorem TupAt.sq {K : PySem.W.Frag} {H : Hp} {a : Addr} {vs : List V} (h : TupAt H a vs) : SqT K H a vs := let ⟨o, e, _⟩ := h; .inl (.inr ⟨o, e⟩)
theorem TupAt.keep {H H' : Hp} {a : Addr} {vs : List V} (h : TupAt H a vs) (k : ∀ o, H a = some o → H' a = some o) : TupAt H' a vs := let ⟨o, e, d⟩ := h; ⟨o, k _ e, d⟩
theorem TupAt.here {H : Hp} {a : Addr} {vs : List V} (h : TupAt H a vs) : H a ≠ none := by obtain ⟨o, e, _⟩ := h; rw [e]; simp
theorem TupAt.inj {H : Hp} {a : Addr} {vs ws : List V} (h : TupAt H a vs) (h' : TupAt H a ws) : vs = ws := by
  obtain ⟨o, e, _⟩ := h; obtain ⟨o', e', _⟩ := h'; rw [e] at e'; cases e'; rfl
/-- a new tuple -/
abbrev NewTup (H : Hp) (Q : VK) (vs : List V) : Prop := ∀ (p : Addr) (o : Obj), o.dict = none → H p = none → Q (.ref p) (upd H p (.frz o (.tup vs)))
theorem TupAt.new {H : Hp} {p : Addr} {o : Obj} {vs : List V} (h : o.dict = none) : TupAt (upd H p (.frz o (.tup vs))) p vs := ⟨o, upd_same, h⟩
section
variable {X : Cx} {pins : List (Addr × Obj)} {σ : St} {H : Hp} {s : Shared} {Q : VK}
/-- the new tuple behind a push -/
theorem laidT {vs : List V} {us : List Value} {n : Nat} {h' : Heap} {t : Nat} (I : Inv X pins σ H { s with heap := h', toks := t }) (hz : vs.length ≤ sizeLine) (r : Vals vs us) (q : NewTup H Q vs) :
    EP X pins σ Q (.ref h'.objs.size) { s with heap := h'.push { cls := .type "tuple", data := .seq us.toArray n }, toks := t } := by
  have hf : H h'.objs.size = none := I.hok.fresh (Nat.le_refl _)
  have hg : (h'.push { cls := .type "tuple", data := .seq us.toArray n }).get? h'.objs.size = some { cls := .type "tuple", data := .seq us.toArray n } := Heap.get?_push_size _ rfl
  refine ⟨.ref h'.objs.size, upd H h'.objs.size (.frz { cls := .type "tuple", data := .seq us.toArray n } (.tup vs)), I.laid (s := { s with heap := h', toks := t }) (t' := t) (fun b o e => Heap.get?_push_of_some _ e) (Nat.le_refl _) ?_, rfl, q _ _ rfl hf⟩
  exact ⟨hg, hz, us, r, _, hg, rfl, _, rfl⟩
variable {es : List Expr} {t : TA} {pos : Pos}
def tTupF (t : TA) : TE := fun σ H Q => t σ H fun xs H1 => xs.length ≤ sizeLine ∧ NewTup H1 Q xs
theorem pe_tupF {x1} (h : PA X es t) : PE X (.Tuple es x1 pos) (tTupF t) := by
  refine ⟨fun pins s σ H Q I hq => ?_⟩
  refine wpAny_Tuple_spliced (thn (h.run pos pins s σ H _ I hq) fun us s1 ⟨xs, H1, I1, r, z, q⟩ => ⟨by rw [← r.length]; exact z, ?_⟩)
  exact laidT (s := s1) (t := s1.toks) I1 z r q
theorem call_tuple_ofF : CallR X (.type "tuple") (fun xs H Q => ∃ p ys, xs = [.ref p] ∧ ((SqL X.K H p ys ∧ NewTup H Q ys) ∨ (SqT X.K H p ys ∧ Q (.ref p) H))) := by
  intro pins s σ H xs us Q I r h
  obtain ⟨p, ys, rfl, h⟩ := h
  obtain ⟨u, rfl, rx⟩ := vals1 r
  cases rx
  rcases h with ⟨hq, q⟩ | ⟨hq, q⟩
  · obtain ⟨its, r', pl, hz⟩ := I.list hq
    have hlen := r'.length
    refine call_tuple_list pl.isList (fun h' kp => ?_) (by simp only [List.size_toArray] <;> omega)
    have I1 : Inv X pins σ H { s with heap := h' } := I.kept (t' := s.toks) kp
    exact laidT (s := s) (t := s.toks) I1 hz r' q
  · obtain ⟨its, r', pl, hz⟩ := I.tuple hq
    exact call_tuple_same pl ⟨.ref p, H, I, rfl, q⟩
def rCatF (K : PySem.W.Frag) : R2 := fun x y H Q => ∃ a b xs ys, x = .ref a ∧ y = .ref b ∧ SqT K H a xs ∧ SqT K H b ys ∧ xs.length + ys.length ≤ sizeLine ∧
  (xs = [] → Q (.ref b) H) ∧ (xs ≠ [] → ys = [] → Q (.ref a) H) ∧ (xs ≠ [] → ys ≠ [] → NewTup H Q (xs ++ ys))
theorem op_catF : OpR X (binaryOp .Add) (rCatF X.K) := by
  intro pins s σ H x y v u Q I rx ry h
  obtain ⟨a, b, xs, ys, rfl, rfl, ha, hb, hz, q0, q1, q2⟩ := h
  cases rx
  cases ry
  obtain ⟨its, r1, p1, _⟩ := I.tuple ha
  obtain ⟨its2, r2, p2, _⟩ := I.tuple hb
  by_cases hx : xs = []
  · subst hx
    cases r1
    exact cat_tup0 p1 p2 ⟨.ref b, H, I, rfl, q0 rfl⟩
  · refine HT.cat_tup p1 p2 (fun z => hx (r1.nil_iff.mp z)) (fun z => ⟨.ref a, H, I, rfl, q1 hx (r2.nil_iff.mp z)⟩) (fun z => ?_) (by rw [← r1.length, ← r2.length]; exact hz)
    exact laidT (s := s) (t := s.toks) I (by rw [List.length_append]; exact hz) (r1.append r2) (q2 hx (fun w => z (r2.nil_iff.mpr w)))
def rSlF (K : PySem.W.Frag) : V → Option Int → Option Int → Hp → VK → Prop := fun x lo hi H Q => ∃ a xs, x = .ref a ∧ SqT K H a xs ∧
  (HT.sIx xs.length 0 lo = 0 ∧ HT.sIx xs.length xs.length hi = xs.length → Q (.ref a) H) ∧ (¬ (HT.sIx xs.length 0 lo = 0 ∧ HT.sIx xs.length xs.length hi = xs.length) → NewTup H Q (cutV xs lo hi))
theorem sl_tupF : SlR X (rSlF X.K) := by
  intro pins s σ H x v vl vu lo hi sl Q I rx hs pl pu h
  obtain ⟨a, xs, rfl, hx, q1, q2⟩ := h
  cases rx
  obtain ⟨its, r, ht, hz⟩ := I.tuple hx
  have hlen : its.toArray.size = xs.length := by rw [List.size_toArray]; exact r.length.symm
  by_cases hw : HT.sIx xs.length 0 lo = 0 ∧ HT.sIx xs.length xs.length hi = xs.length
  · refine ⟨"tuple", _, PyProof.Rows.slot_tuple_getitem.lookup, ht.typeIs, ?_⟩
    exact getItem_tuple_whole ht hs pl pu (by rw [hlen]; exact hw) ⟨.ref a, H, I, rfl, q1 hw⟩
  · refine ⟨"tuple", _, PyProof.Rows.slot_tuple_getitem.lookup, ht.typeIs, ?_⟩
    refine HT.getItem_tuple_cut ht hs pl pu (by rw [hlen]; exact hw) ?_ (by rw [hlen]; exact hz)
    rw [hlen]
    exact laidT (s := s) (t := s.toks) I (Nat.le_trans (cutV_length xs lo hi) hz) ((r.drop (HT.sIx xs.length 0 lo)).take (HT.sIx xs.length xs.length hi - HT.sIx xs.length 0 lo)) (q2 hw)
def tTupRgF (te : St → Hp → (Int → Int → Hp → Prop) → Prop) : TE := fun σ H Q => te σ H fun a b H1 => RgOk a b ∧ NewTup H1 Q (rgV a b)
theorem pe_tupRgF {e : Expr} {te : St → Hp → (Int → Int → Hp → Prop) → Prop} {p pos : Pos} (hc : X.calm = true) (hg : Gl X "tuple") (hm : X.mg "tuple" = none) (he : PRg X e te) (na : starEach [e] X.env = (false, eval e X.env) :: starEach [] X.env := by rfl) : PE X (.Call (.Name "tuple" p) [e] [] pos) (tTupRgF te) := by
  refine ⟨fun pins s σ H Q I h => ?_⟩
  refine Call_ (ld_blt I hg hm boot_tuple (PyProof.Rows.callWith_type1 (args_cons (thn (he pins s σ H _ I h) fun x s1 ⟨r, a, b, t, u, v, H1, ex, hr, I1, ok, q⟩ => args_nil ?_) na) na))
  subst ex
  obtain ⟨b1, b2, b3, b4, b5⟩ := ok
  refine call_tuple_range (n := (b - a).toNat) (I1.ok.hd hc) hr (small_one b1 b2 b3 b4) (rangeSize_nat a b) b5 fun h' tk acc hk hi => ?_
  have I2 : Inv X pins σ H1 { s1 with heap := h', toks := tk } := I1.kept hk
  have z := laidT (s := s1) (t := tk) (us := acc.toList) (n := 0) I2 (by rw [rgV_length, sizeLine_eq]; omega) (vals_rg hi) q
  rw [Array.toArray_toList] at z
  exact z

/-! ### methods of what is built in -/
/-- what a method is called on: its type; it has no dict -/
def Bare (X : Cx) (T : String) (x : V) (H : Hp) : Prop := ∀ (pins : List (Addr × Obj)) (σ : St) (s : Shared) (v : Value), Inv X pins σ H s → RelV x v → s.TypeIs v T ∧ ∀ a, v = .ref a → ∃ ob, s.heap.get? a = some ob ∧ ob.dict = none
theorem bare_str {z : Str} : Bare X "str" (.str z) H := fun pins σ s v I r => by
  obtain ⟨t, rfl⟩ := r
  exact ⟨typeIs_str s z t, fun _ e => nomatch e⟩
theorem bare_tup {a : Addr} {vs : List V} (h : TupAt H a vs) : Bare X "tuple" (.ref a) H := fun pins σ s v I r => by
  cases r
  obtain ⟨o, e, d⟩ := h
  obtain ⟨e1, _, its, r', o', e2, hc, n, hd⟩ := (show ObjOk X.prog X.w H s.heap a (.frz o (.tup vs)) from I.hok a _ e)
  rw [e1] at e2; cases e2
  exact ⟨⟨o, e1, hc⟩, fun b z => by cases z; exact ⟨o, e1, d⟩⟩
theorem bare_lst {a : Addr} {vs : List V} (h : SqL X.K H a vs) : Bare X "list" (.ref a) H := fun pins σ s v I r =>
  tyV_is I r (.inl ⟨rfl, vs, h⟩)
def tBMg0 (X : Cx) (T : String) (r : V → List V → Hp → VK → Prop) (to : TE) : TE := fun σ H Q => to σ H fun x H1 => Bare X T x H1 ∧ r x [] H1 Q
def tBMg (X : Cx) (T : String) (r : V → List V → Hp → VK → Prop) (to : TE) (t : TA) : TE := fun σ H Q => to σ H fun x H1 => Bare X T x H1 ∧ t σ H1 fun xs H2 => r x xs H2 Q
variable {o e : Expr} {to : TE} {name : Str} {apos cpos : Pos} {T id : String} {r : V → List V → Hp → VK → Prop}
theorem pe_bmG {es : List Expr} {t : TA} (pa : PlainAttrs T) (slot : Slot T name id) (hty : typeOf (.builtin id) = pure (.type "method_descriptor")) (hm : MtR X id r) (ho : PE X o to) (ha : PA X (e :: es) t)
    (hbase : attributeBase o name X.env (eval o X.env) = eval o X.env := by rfl)
    (hfew : ((backTo cpos (starEach (e :: es) X.env)).all (fun x => !x.1) && (backToKw cpos (keywordEach [] X.env)).all (fun x => x.1.isSome)
      && decide ((e :: es).length + ([] : List Keyword).length + (if ([] : List Keyword).isEmpty then 0 else 1) < 30)) = true := by rfl)
    (hline : (apos.endLine == cpos.line) = true := by rfl) (hs : starEach (e :: es) X.env = (false, eval e X.env) :: starEach es X.env := by rfl) (hplain : (backTo cpos (starEach es X.env)).any (·.1) = false := by rfl) :
    PE X (.Call (.Attribute o name apos) (e :: es) [] cpos) (tBMg X T r to t) := by
  refine ⟨fun pins s σ H Q I h => ?_⟩
  refine wpAny_Call_method_late hbase hfew hline rfl (thn (ho.run pins s σ H _ I h) fun v s1 ⟨x, H1, I1, r1, ty, q1⟩ => ?_)
  obtain ⟨h1, h2⟩ := ty _ _ _ _ I1 r1
  refine ⟨T, id, pa, slot, hty, h1, h2, ?_⟩
  have hA := ha.run cpos pins s1 σ H1 _ I1 q1
  rw [hs] at hA ⊢
  refine Calls.callWith_builtin (by show (false || (backTo cpos (starEach es X.env)).any (·.1)) = false; rw [hplain] <;> rfl) (Calls.evalArgs_plain ?_)
  exact thn hA fun us s2 ⟨vs, H2, I2, r2, q2⟩ => hm pins s2 σ H2 x vs v us Q I2 r1 r2 q2
end
end Ev

/-! EvR: t[::-1] of a tuple. -/
namespace Ev
open PySem PySem.Spec L2
open PyProof.Rows hiding St
section
variable {prog : Program} {w : World} {A : Around} {E : Value → Shared → Prop} {s : Shared}
theorem sliceApplied_rev {sl : Addr} {vl vu vs : Value} {n : Nat} {Q : Int × Int × Nat → Shared → Prop} (hs : s.heap.IsSliceOf sl vl vu vs) (pl : IsPart vl none) (pu : IsPart vu none) (ps : IsPart vs (some (-1)))
    (h : Q ((n : Int) - 1, -1, n) s) : wpAny (model prog w) A (Builtin.Slice.sliceApplied (.ref sl) (pure (n : Int))) Q E s := by
  obtain ⟨os, hos, hcs, hds⟩ := id hs
  unfold Builtin.Slice.sliceApplied Builtin.Slice.sliceFields
  refine wpAny_bind (wpAny_bind (wpAny_field hos hds (x := vl) rfl (wpAny_bind (wpAny_field hos hds (x := vu) rfl (wpAny_bind (wpAny_field hos hds (x := vs) rfl (wpAny_pure ?_)))))))
  refine wpAny_bind (HT.slicePart_ ps ?_)
  show wpAny _ _ (if ((-1 : Int) == 0) = true then _ else _) _ _ s
  rw [if_neg (by decide)]
  refine wpAny_bind (HT.slicePart_ pl (wpAny_bind (HT.slicePart_ pu (wpAny_bind (wpAny_pure ?_)))))
  have e : Builtin.Slice.slicePlaces ((n : Int) - 1) (-1) (-1) = n := by
    unfold Builtin.Slice.slicePlaces
    have h1 : ¬ ((-1 : Int) > 0) := by omega
    have h2 : (- -1 : Int) = 1 := by omega
    simp only [h1, if_false, h2, Int.ediv_one]
    split <;> omega
  show wpAny _ _ (pure ((n : Int) - 1, (-1 : Int), Builtin.Slice.slicePlaces ((n : Int) - 1) (-1) (-1))) _ _ s
  rw [e]
  exact wpAny_pure h
theorem pick_rev (xs : Array Value) : ((List.range xs.size).filterMap fun (m : Nat) => xs[((xs.size : Int) - 1 + (m : Int) * (-1)).toNat]?).toArray = xs.toList.reverse.toArray := by
  have h := PySem.W.krv_all xs
  have e : (List.range xs.size).filterMap (fun (m : Nat) => xs[((xs.size : Int) - 1 + (m : Int) * (-1)).toNat]?) = ((List.range xs.size).map fun k => xs.size - 1 - k).filterMap (xs[·]?) := by
    rw [List.filterMap_map]
    have e2 : (fun (m : Nat) => xs[((xs.size : Int) - 1 + (m : Int) * (-1)).toNat]?) = (fun x => xs[x]?) ∘ fun k => xs.size - 1 - k := by
      funext m
      have e2 : ((xs.size : Int) - 1 + (m : Int) * (-1)).toNat = xs.size - 1 - m := by omega
      simp only [Function.comp, e2]
    rw [e2]
  rw [e, PySem.W.krv_range, List.filterMap_reverse, h]
theorem getItem_tuple_rev {t sl : Addr} {items : Array Value} {vl vu vs : Value} {Q : Value → Shared → Prop} (ht : IsTup s.heap t items) (hs : s.heap.IsSliceOf sl vl vu vs) (pl : IsPart vl none) (pu : IsPart vu none) (ps : IsPart vs (some (-1)))
    (h : Q (.ref s.heap.objs.size) { s with heap := s.heap.push { cls := .type "tuple", data := .seq items.toList.reverse.toArray } })
    (hsz : items.size ≤ sizeLine) : wpAny (model prog w) A (getItem (.ref t) (.ref sl)) Q E s := by
  have htake : sizeOk (.seq items.toList.reverse.toArray) := by
    show items.toList.reverse.toArray.size ≤ sizeLine
    rw [List.size_toArray, List.length_reverse, Array.length_toList]
    exact hsz
  obtain ⟨os, hos, hcs, hds⟩ := id hs
  have hTs : s.TypeIs (.ref sl) "slice" := ⟨os, hos, hcs⟩
  unfold getItem
  try with_reducible refine wpAny_holding ?_
  first | refine wpAny_bind (wpAny_pure ?_) | skip
  refine wpAny_bind (wpAny_sequenceKey ht.typeIs (by decide) ?_)
  refine wpAny_bind (wpAny_callSpecial?_slot (name := Str.ofString "__getitem__") ht.typeIs PyProof.Rows.slot_tuple_getitem
    (wpAny_call_entry PyProof.Rows.slot_tuple_getitem ht.typeIs entry_tuple_getitem ?_ (args_tuple_getitem _ _)))
  show wpAny _ _ (Builtin.Tuple.tupleItemsOf (.ref t) >>= _) _ _ s
  refine wpAny_bind (tupleItemsOf_ ht ?_)
  refine wpAny_bind (wpAny_typeOf hTs ?_)
  rw [if_pos (by decide)]
  refine wpAny_bind (sliceApplied_rev hs pl pu ps ?_)
  show wpAny _ _ (if (((items.size : Int) - 1) == 0 && (-1 : Int) == 1 && items.size == items.size) = true then _ else _) _ _ s
  rw [if_neg (by simp), pick_rev]
  first
    | exact wpAny_bind (m := Builtin.Tuple.tupleExact _) (wpAny_newObj_type (wpAny_pure ⟨_, rfl, wpAny_pure h⟩) htake)
    | exact wpAny_bind (m := Builtin.Tuple.tupleExact _) (wpAny_newObj_type (wpAny_bind (wpAny_pure (wpAny_pure ⟨_, rfl, wpAny_pure h⟩))) htake)
    | exact wpAny_bind (wpAny_bind (m := Builtin.Tuple.tupleExact _) (wpAny_newObj_type (wpAny_pure (wpAny_pure ⟨_, rfl, wpAny_pure h⟩)) htake))
    | exact wpAny_bind (wpAny_bind (m := Builtin.Tuple.tupleExact _) (wpAny_newObj_type (wpAny_pure ⟨_, rfl, wpAny_pure h⟩) htake))
end
section
variable {X : Cx}
def tRevT (K : PySem.W.Frag) (te : TE) : TE := fun σ H Q => te σ H fun x H1 => ∃ a xs, x = .ref a ∧ SqT K H1 a xs ∧ NewTup H1 Q xs.reverse
theorem pe_revT {e : Expr} {te : TE} {k : Nat} {p1 p2 p3 pos : Pos} (he : PE X e te) : PE X (.Subscript e (.Slice none none (some (.UnaryOp .USub (.Constant (.int 1) k p1) p2)) p3) pos) (tRevT X.K te) := by
  refine ⟨fun pins s σ H Q I h => ?_⟩
  refine Subscript_ (thn (he.run pins s σ H _ I h) fun v s1 ⟨x, H1, I1, r1, q1⟩ => ?_)
  obtain ⟨a, xs, ex, hx, q⟩ := q1
  subst ex
  cases r1
  have hst : PO X (some (.UnaryOp .USub (.Constant (.int 1) k p1) p2)) (tPart (tUn (rU fun i => .int (-i)) (tC (.int 1)))) := po_some (pe_un un_neg pe_int)
  refine wpAny_Slice (thn (po_none.run pins s1 σ H1 (fun o H2 => o = none ∧ H2 = H1) I1 ⟨rfl, rfl⟩) fun vl s2 ⟨l, H2, I2, pl, el, e2⟩ => ?_)
  subst el e2
  refine thn (po_none.run pins s2 σ H2 (fun o H3 => o = none ∧ H3 = H2) I2 ⟨rfl, rfl⟩) fun vu s3 ⟨u, H3, I3, pu, eu, e3⟩ => ?_
  subst eu e3
  refine thn (hst.run pins s3 σ H3 (fun o H4 => o = some (-1) ∧ H4 = H3) I3 ⟨1, rfl, -1, rfl, rfl, rfl⟩) fun vs s4 ⟨o, H4, I4, ps, eo, e4⟩ => ?_
  subst eo e4
  have I5 : Inv X pins σ H4 { s4 with heap := s4.heap.push { cls := .type "slice", data := .fields #[vl, vu, vs] } } := I4.kept (t' := s4.toks) fun b ob q => Heap.get?_push_of_some _ q
  obtain ⟨its, r, ht, hz⟩ := I5.tuple hx
  have hlen := r.length
  show wpAny (model X.prog X.w) X.A (subscriptTail e (.Slice none none (some (.UnaryOp .USub (.Constant (.int 1) k p1) p2)) p3) (.ref a) (.ref s4.heap.objs.size)) (EP X pins σ Q) X.xe { s4 with heap := s4.heap.push { cls := .type "slice", data := .fields #[vl, vu, vs] } }
  refine tail_any (ops := [.ref a, .ref s4.heap.objs.size]) ht.typeIs (PyProof.Rows.slot_tuple_getitem.lookup) ?_ (by with_unfolding_all rfl)
  refine getItem_tuple_rev ht (Heap.IsSliceOf.new _ vl vu vs) pl pu ps ?_ (by rw [List.size_toArray]; omega)
  exact laidT (s := { s4 with heap := s4.heap.push { cls := .type "slice", data := .fields #[vl, vu, vs] } }) (t := s4.toks) I5 (by rw [List.length_reverse]; exact hz) r.reverse q
end
end Ev

/-! Ev1: an own small syntax and an evaluator by value. -/
namespace Ev
open PySem

/-- plain data; `scr`: the script (a list of ints from outside); `dic`: a dict whose keys are tuples, its pairs in order; `tab`: a written table with flat keys -/
inductive D where
  | non | bl (b : Bool) | int (i : Int) | str (s : Str) | tup (ds : List D) | lst (ds : List D) | scr (ns : List Int) | dic (kvs : List (D × D)) | tab (kvs : List (D × D))
instance : Inhabited D := ⟨.non⟩

inductive R (α : Type) where
  | ok (a : α) | exc (c : Nat) | bad
namespace R
variable {α β : Type}
def bind : R α → (α → R β) → R β
  | .ok a, f => f a
  | .exc c, _ => .exc c
  | .bad, _ => .bad
/-- an exception here is not followed -/
def noexc : R α → R α
  | .ok a => .ok a
  | _ => .bad
@[simp] theorem ok_bind (a : α) (f : α → R β) : (R.ok a).bind f = f a := rfl
@[simp] theorem exc_bind (c : Nat) (f : α → R β) : (R.exc c).bind f = .exc c := rfl
@[simp] theorem bad_bind (f : α → R β) : (R.bad : R α).bind f = .bad := rfl
@[simp] theorem noexc_ok (a : α) : (R.ok a).noexc = .ok a := rfl
end R
def chk {α : Type} (b : Bool) (r : R α) : R α := if b then r else .bad
@[simp] theorem chk_true {α : Type} (r : R α) : chk true r = r := rfl

def LIM : Nat := 16777216

/-! ### data -/
mutual
def toPy : D → PyData
  | .non => .none
  | .bl b => .bool b
  | .int i => .int i
  | .str s => .str s
  | .tup ds => .tuple (toPys ds)
  | .lst ds => .list (toPys ds)
  | .scr _ => .dict []
  | .dic _ => .dict []
  | .tab _ => .dict []
def toPys : List D → List PyData
  | [] => []
  | d :: ds => toPy d :: toPys ds
end
mutual
/-- no list, no dict within, to a depth -/
def flat : Nat → D → Bool
  | _, .non => true
  | _, .bl _ => true
  | _, .int _ => true
  | _, .str _ => true
  | n + 1, .tup ds => flats n ds
  | 0, .tup _ => false
  | _, .lst _ => false
  | _, .scr _ => false
  | _, .dic _ => false
  | _, .tab _ => false
def flats : Nat → List D → Bool
  | _, [] => true
  | n, d :: ds => flat n d && flats n ds
end
mutual
/-- data that == looks at: no dict, no script, to a depth -/
def shap : Nat → D → Bool
  | _, .non => true
  | _, .bl _ => true
  | _, .int _ => true
  | _, .str s => PyData.strOk s
  | n + 1, .tup ds => shaps n ds
  | n + 1, .lst ds => shaps n ds
  | 0, .tup _ => false
  | 0, .lst _ => false
  | _, .scr _ => false
  | _, .dic _ => false
  | _, .tab _ => false
def shaps : Nat → List D → Bool
  | _, [] => true
  | n, d :: ds => shap n d && shaps n ds
end
def shape (d : D) : Bool := shap 60 d
def noList (d : D) : Bool := flat 60 d
def noLists (ds : List D) : Bool := flats 60 ds

def eqv (a b : D) : Bool := PyData.eqv (toPy a) (toPy b)


mutual
def keyd : Nat → D → Bool
  | _, .non => true
  | _, .int _ => true
  | _, .str _ => true
  | n + 1, .tup ds => keyds n ds
  | _, _ => false
def keyds : Nat → List D → Bool
  | _, [] => true
  | n, d :: ds => keyd n d && keyds n ds
end

def keyT : D → Bool
  | .tup ds => keyds 5 ds
  | _ => false
def keyF : D → Bool
  | .non => true
  | .int _ => true
  | .str _ => true
  | _ => false

def ints? : List D → Option (List Int)
  | [] => some []
  | .int i :: ds => (ints? ds).map (i :: ·)
  | _ :: _ => none
def tups? : List D → Option (List (List Int))
  | [] => some []
  | .tup xs :: ds => match ints? xs, tups? ds with
    | some (x :: r), some rs => some ((x :: r) :: rs)
    | _, _ => none
  | _ :: _ => none
def bls? : List D → Option (List Bool)
  | [] => some []
  | .bl b :: ds => (bls? ds).map (b :: ·)
  | _ :: _ => none
def strs? : List D → Option (List Str)
  | [] => some []
  | .str b :: ds => (strs? ds).map (b :: ·)
  | _ :: _ => none
def insS {α : Type} (le : α → α → Bool) (x : α) : List α → List α
  | [] => [x]
  | y :: r => if le x y then x :: y :: r else y :: insS le x r
/-- sorted, by insertion -/
def isort {α : Type} (le : α → α → Bool) (l : List α) : List α := l.foldr (insS le) []
theorem insS_perm {α : Type} (le : α → α → Bool) (x : α) : ∀ l : List α, (insS le x l).Perm (x :: l)
  | [] => .refl _
  | y :: r => by
    unfold insS
    split
    · exact .refl _
    · exact ((insS_perm le x r).cons y).trans (.swap x y r)
theorem isort_perm {α : Type} (le : α → α → Bool) : ∀ l : List α, (isort le l).Perm l
  | [] => .refl _
  | x :: l => (insS_perm le x (isort le l)).trans ((isort_perm le l).cons x)
theorem insS_pw {α : Type} {le : α → α → Bool} (tr : ∀ a b c, le a b = true → le b c = true → le a c = true) (tot : ∀ a b, (le a b || le b a) = true) (x : α) : ∀ l : List α, l.Pairwise (fun a b => le a b = true) → (insS le x l).Pairwise (fun a b => le a b = true)
  | [], _ => by simp [insS]
  | y :: r, h => by
    obtain ⟨h1, h2⟩ := List.pairwise_cons.mp h
    unfold insS
    split
    · rename_i e
      refine List.pairwise_cons.mpr ⟨fun z hz => ?_, h⟩
      rcases List.mem_cons.mp hz with rfl | hz
      · exact e
      · exact tr _ _ _ e (h1 z hz)
    · rename_i e
      refine List.pairwise_cons.mpr ⟨fun z hz => ?_, insS_pw tr tot x r h2⟩
      rcases List.mem_cons.mp ((insS_perm le x r).subset hz) with rfl | hz
      · have := tot z y
        simp only [Bool.not_eq_true] at e
        rw [e, Bool.false_or] at this
        exact this
      · exact h1 z hz
theorem isort_pw {α : Type} {le : α → α → Bool} (tr : ∀ a b c, le a b = true → le b c = true → le a c = true) (tot : ∀ a b, (le a b || le b a) = true) : ∀ l : List α, (isort le l).Pairwise (fun a b => le a b = true)
  | [] => .nil
  | x :: l => insS_pw tr tot x _ (isort_pw tr tot l)
theorem isort_ms {α : Type} {le : α → α → Bool} (tr : ∀ a b c, le a b = true → le b c = true → le a c = true) (tot : ∀ a b, (le a b || le b a) = true) (an : ∀ a b, le a b = true → le b a = true → a = b) (l : List α) : isort le l = l.mergeSort le :=
  List.Perm.eq_of_pairwise (fun a b _ _ => an a b) (isort_pw tr tot l) (List.pairwise_mergeSort tr tot l) ((isort_perm le l).trans (List.mergeSort_perm l le).symm)
def sortI (ns : List Int) : List Int := isort (fun a b => decide (a ≤ b)) ns
def sortT (ns : List (List Int)) : List (List Int) := isort (fun a b => decide (a ≤ b)) ns
theorem sortI_ms (ns : List Int) : sortI ns = ns.mergeSort (fun a b => decide (a ≤ b)) :=
  isort_ms (fun a b c h1 h2 => by simp at *; omega) (fun a b => by simp; omega) (fun a b h1 h2 => by simp at *; omega) ns
theorem sortT_ms (ns : List (List Int)) : sortT ns = ns.mergeSort (fun a b => decide (a ≤ b)) :=
  isort_ms (fun a b c h1 h2 => by simp only [decide_eq_true_eq] at *; exact List.le_trans h1 h2) (fun a b => by simp only [Bool.or_eq_true, decide_eq_true_eq]; exact List.le_total a b) (fun a b h1 h2 => by simp only [decide_eq_true_eq] at *; exact List.le_antisymm h1 h2) ns
def intT (ns : List Int) : D := .tup (ns.map .int)
def sortD (ds : List D) : R D := match ints? ds with
  | some ns => .ok (.lst ((sortI ns).map .int))
  | none => match tups? ds with
    | some nss => .ok (.lst ((sortT nss).map intT))
    | none => .bad

def truth : D → R Bool
  | .non => .ok false
  | .bl b => .ok b
  | .int i => .ok (i != 0)
  | .tup ds => .ok (!ds.isEmpty)
  | .lst ds => .ok (!ds.isEmpty)
  | .scr ns => .ok (!ns.isEmpty)
  | .str s => chk (decide (s.length ≤ LIM)) (.ok (s.length != 0))
  | .dic _ => .bad
  | .tab _ => .bad

inductive BO where | add | sub | mul | mod | fdv deriving DecidableEq
inductive CO where | eq | ne | lt | le | gt | ge | is | nis | inn | nin deriving DecidableEq
inductive TN where | int | bool | tup | str | lis deriving DecidableEq
inductive BF where | len | srt | all | any | int | lis | tup | mn2 | mx2 | mx1 | mn1 | str | dic | lrg | trg | sst deriving DecidableEq
inductive MF where | count | split | join | part | get deriving DecidableEq

def small (i : Int) : Bool := decide (-(2 ^ 64) < i) && decide (i < 2 ^ 64)
def binop : BO → D → D → R D
  | .add, .int i, .int j => .ok (.int (i + j))
  | .add, .str x, .str y => chk (decide (x.length + y.length ≤ LIM)) (.ok (.str (x ++ y)))
  | .add, .tup xs, .tup ys => chk (decide (xs.length + ys.length ≤ LIM)) (.ok (.tup (xs ++ ys)))
  | .add, .lst xs, .lst ys => chk (decide (xs.length + ys.length ≤ LIM)) (.ok (.lst (xs ++ ys)))
  | .sub, .int i, .int j => .ok (.int (i - j))
  | .mul, .int i, .int j => chk (small i || small j) (.ok (.int (i * j)))
  | .mul, .lst xs, .int k => chk (decide (0 ≤ k) && decide (k < 1000) && decide (xs.length * k.toNat ≤ LIM)) (.ok (.lst (List.replicate k.toNat xs).flatten))
  | .mul, .str z, .int k => match z.cps.toList with
    | [c] => chk (decide (2 ≤ k) && decide (k < 1000)) (.ok (.str ⟨(List.replicate k.toNat c).toArray⟩))
    | _ => .bad
  | .mod, .int i, .int j => chk (decide (0 < j)) (.ok (.int (i % j)))
  | .fdv, .int i, .int j => chk (decide (0 < j) && decide (j < 1073741824)) (.ok (.int (i / j)))
  | _, _, _ => .bad

def isNon : D → Bool
  | .non => true
  | _ => false
def isOne : D → D → R Bool
  | a, .non => .ok (isNon a)
  | .bl a, .bl b => .ok (decide (a = b))
  | _, _ => .bad
def look (kvs : List (D × D)) (k : D) : Option D := (kvs.find? fun p => eqv p.1 k).map (·.2)
/-- y in x -/
def inOne (y : D) : D → R Bool
  | .tup ds => chk (shape y && shape (.tup ds)) (.ok (ds.any fun z => eqv z y))
  | .lst ds => chk (shape y && shape (.lst ds)) (.ok (ds.any fun z => eqv z y))
  | .dic kvs => chk (keyT y) (.ok (look kvs y).isSome)
  | .tab kvs => chk (keyF y) (.ok (look kvs y).isSome)
  | .str z => match y with
    | .str c => match c.cps.toList with
      | [k] => chk (decide (z.length ≤ LIM)) (.ok (decide (k ∈ z.cps.toList)))
      | _ => .bad
    | _ => .bad
  | _ => .bad
def ltI (f : Int → Int → Bool) : D → D → R D
  | .int i, .int j => .ok (.bl (f i j))
  | _, _ => .bad
def ltD : D → D → R D
  | .int i, .int j => .ok (.bl (decide (i < j)))
  | .tup xs, .tup ys => match ints? xs, ints? ys with
    | some ns, some ms => .ok (.bl (decide (ns < ms)))
    | _, _ => .bad
  | _, _ => .bad
def cmpop : CO → D → D → R D
  | .eq, a, b => chk (shape a && shape b) (.ok (.bl (eqv a b)))
  | .ne, a, b => chk (shape a && shape b) (.ok (.bl (!eqv a b)))
  | .lt, a, b => ltD a b
  | .le, a, b => ltI (fun i j => decide (i ≤ j)) a b
  | .gt, a, b => ltI (fun i j => decide (j < i)) a b
  | .ge, a, b => ltI (fun i j => decide (j ≤ i)) a b
  | .is, a, b => (isOne a b).bind fun k => .ok (.bl k)
  | .nis, a, b => (isOne a b).bind fun k => .ok (.bl (!k))
  | .inn, a, b => (inOne a b).bind fun k => .ok (.bl k)
  | .nin, a, b => (inOne a b).bind fun k => .ok (.bl (!k))

def ixN (n : Nat) (i : Int) : Option Nat := if 0 ≤ i then (if i < n then some i.toNat else none) else if -(n : Int) ≤ i then some (i + n).toNat else none
def atI {α : Type} (xs : List α) (i : Int) : Option α := (ixN xs.length i).bind fun j => xs[j]?
def orBad {α : Type} : Option α → R α
  | some a => .ok a
  | none => .bad
def subD : D → D → R D
  | .tup xs, .int i => orBad (atI xs i)
  | .lst xs, .int i => orBad (atI xs i)
  | .scr ns, .int i => orBad ((atI ns i).map .int)
  | .str s, .int i => chk (decide (s.length ≤ LIM)) (orBad ((atI s.cps.toList i).map fun c => .str ⟨#[c]⟩))
  | .dic kvs, k => chk (keyT k) (orBad (look kvs k))
  | .tab kvs, k => chk (keyF k) (orBad (look kvs k))
  | _, _ => .bad
def sIx (n d : Nat) : Option Int → Nat
  | none => d
  | some v => if v < 0 then (v + (n : Int)).toNat else min v.toNat n
def cut {α : Type} (xs : List α) (lo hi : Option Int) : List α := (xs.drop (sIx xs.length 0 lo)).take (sIx xs.length xs.length hi - sIx xs.length 0 lo)
def slcD (lo hi : Option Int) : D → R D
  | .tup xs => .ok (.tup (cut xs lo hi))
  | .lst xs => .ok (.lst (cut xs lo hi))
  | .str z => chk (decide (z.length ≤ LIM)) (.ok (.str (PySem.Str.mk (cut z.cps.toList lo hi).toArray)))
  | _ => .bad
/-- x[::-1] -/
def revD : D → R D
  | .tup xs => .ok (.tup xs.reverse)
  | _ => .bad

def isT : TN → D → R Bool
  | .int, .int _ => .ok true
  | .int, .bl _ => .ok true
  | .bool, .bl _ => .ok true
  | .str, .str _ => .ok true
  | .tup, .tup _ => .ok true
  | .lis, .lst _ => .ok true
  | _, .scr _ => .bad
  | _, .dic _ => .bad
  | _, .tab _ => .bad
  | _, _ => .ok false
def rangeD (lo : Int) (n : Nat) : List D := (List.range n).map fun i => .int (lo + (i : Nat))
def okR (i : Int) : Bool := decide (-16777216 ≤ i) && decide (i ≤ 16777216)
def pairs? : List D → Option (List (D × D))
  | [] => some []
  | .tup [k, v] :: ds => (pairs? ds).map ((k, v) :: ·)
  | _ :: _ => none
/-- d[k] = v on the pairs -/
def put (kvs : List (D × D)) (k v : D) : List (D × D) := if (kvs.any fun p => eqv p.1 k) then kvs.map (fun p => if eqv p.1 k then (p.1, v) else p) else kvs ++ [(k, v)]
def insI (n : Int) : List Int → List Int
  | [] => [n]
  | x :: r => if n < x then n :: x :: r else if n = x then x :: r else x :: insI n r
/-- the ints, each once, rising -/
def dedupI (ns : List Int) : List Int := ns.foldr insI []
def insT (n : List Int) : List (List Int) → List (List Int)
  | [] => [n]
  | x :: r => if n < x then n :: x :: r else if n = x then x :: r else x :: insT n r
/-- the lists, each once, rising -/
def dedT (nss : List (List Int)) : List (List Int) := nss.foldr insT []
def likeT (d : Nat) (nss : List (List Int)) : Bool := nss.all fun n => decide (n.length = d) && n.all fun m => decide (0 ≤ m) && decide (m < 64)
def maxI : Int → List Int → Int
  | m, [] => m
  | m, x :: r => maxI (if m < x then x else m) r
def minI : Int → List Int → Int
  | m, [] => m
  | m, x :: r => minI (if x < m then x else m) r

def blt : BF → List D → R D
  | .len, [.tup xs] => .ok (.int xs.length)
  | .len, [.lst xs] => .ok (.int xs.length)
  | .len, [.scr xs] => .ok (.int xs.length)
  | .len, [.str s] => chk (decide (s.length ≤ LIM)) (.ok (.int s.length))
  | .srt, [.lst xs] => sortD xs
  | .srt, [.tup xs] => sortD xs
  | .srt, [.dic kvs] => sortD (kvs.map (·.1))
  | .all, [.lst xs] => match bls? xs with
    | some bs => .ok (.bl (bs.all id))
    | none => .bad
  | .any, [.lst xs] => match bls? xs with
    | some bs => .ok (.bl (bs.any id))
    | none => .bad
  | .int, [.int i] => .ok (.int i)
  | .int, [.bl b] => .ok (.int (if b then 1 else 0))
  | .int, [.str s] => match PySem.intText? s with
    | some n => chk (decide (s.length ≤ 640)) (.ok (.int n))
    | none => .bad
  | .lis, [.lst xs] => .ok (.lst xs)
  | .lis, [.tup xs] => .ok (.lst xs)
  | .lis, [.dic kvs] => .ok (.lst (kvs.map (·.1)))
  | .tup, [.lst xs] => .ok (.tup xs)
  | .tup, [.tup xs] => .ok (.tup xs)
  | .mx2, [.int i, .int j] => .ok (.int (if j > i then j else i))
  | .mn2, [.int i, .int j] => .ok (.int (if j < i then j else i))
  | .mx1, [.tup xs] => match ints? xs with
    | some (n :: ns) => .ok (.int (maxI n ns))
    | _ => .bad
  | .mx1, [.lst xs] => match ints? xs with
    | some (n :: ns) => .ok (.int (maxI n ns))
    | _ => .bad
  | .mn1, [.lst xs] => match ints? xs with
    | some (n :: ns) => .ok (.int (minI n ns))
    | _ => .bad
  | .str, [.int i] => chk (decide (-10000000000 < i) && decide (i < 10000000000)) (.ok (.str (toString i)))
  | .dic, [.lst xs] => match pairs? xs with
    | some kvs => chk (kvs.all fun p => keyT p.1) (.ok (.dic (kvs.foldl (fun a p => put a p.1 p.2) [])))
    | none => .bad
  | .lrg, [.int n] => chk (okR n) (.ok (.lst (rangeD 0 n.toNat)))
  | .trg, [.int n] => chk (okR n) (.ok (.tup (rangeD 0 n.toNat)))
  | .sst, [.lst xs] => match ints? xs with
    | some ns => chk (decide (ns.length ≤ 50)) (.ok (.lst ((dedupI ns).map .int)))
    | none => .bad
  | .sst, [.tup xs] => match tups? xs with
    | some (n :: nss) => chk (likeT n.length (n :: nss) && decide (nss.length < 60)) (.ok (.lst ((dedT (n :: nss)).map intT)))
    | _ => .bad
  | _, _ => .bad

/-- a plain separator -/
def sepB (b : Str) : Bool := !(b.length == 0) && b.cps.all (· < 256)
def partD (b z : Str) : D := match TL.par (TL.tl b) [] (TL.tl z) with
  | some (x, y) => .tup [.str ⟨x.toArray⟩, .str b, .str ⟨y.toArray⟩]
  | none => .tup [.str z, .str PySem.Str.empty, .str PySem.Str.empty]
def recv : MF → D → Bool
  | .count, .lst _ => true
  | .count, .tup _ => true
  | .get, .dic _ => true
  | .split, .str _ => true
  | .join, .str _ => true
  | .part, .str _ => true
  | _, _ => false
def meth : MF → D → List D → R D
  | .count, .lst xs, [d] => chk (shape d && shape (.lst xs)) (.ok (.int ((xs.countP fun z => eqv z d : Nat) : Int)))
  | .count, .tup xs, [d] => chk (shape d && shape (.tup xs)) (.ok (.int ((xs.countP fun z => eqv z d : Nat) : Int)))
  | .get, .dic kvs, [k, x] => chk (keyT k) (.ok ((look kvs k).getD x))
  | .split, .str z, [.str b] => chk (sepB b && decide (z.length + 2 ≤ LIM)) (.ok (.lst ((TL.spl (TL.tl b) 0 [] (TL.tl z)).map fun l => .str ⟨l.toArray⟩)))
  | .part, .str z, [.str b] => chk (sepB b && decide (z.length ≤ LIM)) (.ok (partD b z))
  | .join, .str z, [.lst xs] => match strs? xs with
    | some ys => chk (decide ((ys.map (·.length)).sum + ys.length * z.length ≤ LIM)) (.ok (.str (PySem.Str.join z ys)))
    | none => .bad
  | _, _, _ => .bad

/-! ### the syntax -/
inductive TG where | one (i : Nat) | tup (is : List Nat)
mutual
inductive E where
  | var (i : Nat) | glb (x : Nat) | cst (d : D)
  | bin (o : BO) (a b : E) | cmp (o : CO) (a b : E) | chn (o p : CO) (a b c : E) | bop (isAnd : Bool) (es : EL) | nt (a : E) | neg (a : E) | ife (t a b : E)
  | call (f : Nat) (es : EL) | blt (f : BF) (es : EL) | isi (a : E) (t : TN) | isis (a : E) | mth (m : MF) (o : E) (es : EL)
  | sub (a i : E) | slc (a : E) (lo hi : EL) | rev (a : E) | tup (es : EL) | lst (es : EL) | dct (ks vs : EL)
  /-- a written dict of constants, looked into at once -/
  | pick (kvs : List (D × D)) (i : E)
  | cmpr (elt : E) (tg : TG) (it : IT) (ifs : EL)
inductive EL where
  | nil | cons (e : E) (es : EL)
inductive IT where
  | it (a : E) | r1 (a : E) | r2 (a b : E) | enu (a : E) | zip (a b : E)
end

abbrev Env := List (Option D)
def getV (env : Env) (i : Nat) : R D := match env[i]? with
  | some (some d) => .ok d
  | _ => .bad
def setAll : List Nat → List D → Env → Env
  | i :: is, d :: ds, env => setAll is ds (env.set i (some d))
  | _, _, env => env
def setT : TG → D → Env → R Env
  | .one i, d, env => .ok (env.set i (some d))
  | .tup is, .tup ds, env => chk (decide (ds.length = is.length)) (.ok (setAll is ds env))
  | _, _, _ => .bad
def compL (f : D → R (Option D)) : List D → R (List D)
  | [] => .ok []
  | d :: ds => (f d).bind fun o => (compL f ds).bind fun r => .ok (o.toList ++ r)
def elems : D → R (List D)
  | .tup ds => .ok ds
  | .lst ds => .ok ds
  | .str s => chk (decide (s.cps.toList.length ≤ LIM)) (.ok (s.cps.toList.map fun c => .str ⟨#[c]⟩))
  | _ => .bad
def lsts : D → R (List D)
  | .lst ds => .ok ds
  | _ => .bad
def sqs : D → R (List D)
  | .tup ds => .ok ds
  | .lst ds => .ok ds
  | _ => .bad
def enumL (ds : List D) : List D := ds.mapIdx fun i d => .tup [.int (i : Nat), d]
def zipL (xs ys : List D) : List D := (xs.zip ys).map fun p => .tup [p.1, p.2]
def optI : List D → R (Option Int)
  | [] => .ok none
  | [.int i] => .ok (some i)
  | _ => .bad

structure Cl where
  call : Nat → List D → R D
  glob : Nat → Option D
  wf : Nat

def negD : D → R D
  | .int i => .ok (.int (-i))
  | _ => .bad
mutual
def eval (C : Cl) : E → Env → R D
  | .var i, env => getV env i
  | .glb x, _ => orBad (C.glob x)
  | .cst d, _ => .ok d
  | .bin o a b, env => (eval C a env).bind fun x => (eval C b env).bind fun y => binop o x y
  | .cmp o a b, env => (eval C a env).bind fun x => (eval C b env).bind fun y => cmpop o x y
  | .chn o p a b c, env => (eval C a env).bind fun x => (eval C b env).bind fun y => (cmpop o x y).bind fun r => (truth r).bind fun k => if k then (eval C c env).bind fun z => cmpop p y z else .ok r
  | .bop k es, env => evalB C k es env
  | .nt a, env => (eval C a env).bind fun x => (truth x).bind fun k => .ok (.bl (!k))
  | .neg a, env => (eval C a env).bind negD
  | .ife t a b, env => (eval C t env).bind fun x => (truth x).bind fun k => if k then eval C a env else eval C b env
  | .call f es, env => (evalL C es env).bind fun ds => C.call f ds
  | .blt f es, env => (evalL C es env).bind fun ds => blt f ds
  | .isi a t, env => (eval C a env).bind fun x => (isT t x).bind fun k => .ok (.bl k)
  | .isis a, env => (eval C a env).bind fun x => (isT .int x).bind fun k => (isT .str x).bind fun j => .ok (.bl (k || j))
  | .mth m o es, env => (eval C o env).bind fun x => chk (recv m x) ((evalL C es env).bind fun ds => meth m x ds)
  | .pick kvs i, env => (eval C i env).bind fun y => subD (.tab kvs) y
  | .sub a i, env => (eval C a env).bind fun x => (eval C i env).bind fun y => subD x y
  | .slc a lo hi, env => (eval C a env).bind fun x => ((evalL C lo env).bind optI).bind fun l' => ((evalL C hi env).bind optI).bind fun h' => slcD l' h' x
  | .rev a, env => (eval C a env).bind revD
  | .tup es, env => (evalL C es env).bind fun ds => .ok (.tup ds)
  | .lst es, env => (evalL C es env).bind fun ds => .ok (.lst ds)
  | .dct ks vs, env => (evalL C ks env).bind fun ks' => (evalL C vs env).bind fun vs' => match ks' with
    | [] => .ok (.dic [])
    | _ => .bad
  | .cmpr elt tg it ifs, env => (evalI C it env).bind fun ds => (compL (fun d => ((setT tg d env).bind fun env' => (evalT C ifs env').bind fun k => if k then (eval C elt env').bind fun x => .ok (some x) else .ok none).noexc) ds).bind fun r => .ok (.lst r)
def evalL (C : Cl) : EL → Env → R (List D)
  | .nil, _ => .ok []
  | .cons e es, env => (eval C e env).bind fun d => (evalL C es env).bind fun ds => .ok (d :: ds)
/-- a chain of and, or: the value -/
def evalB (C : Cl) (k : Bool) : EL → Env → R D
  | .nil, _ => .bad
  | .cons e .nil, env => eval C e env
  | .cons e es, env => (eval C e env).bind fun d => (truth d).bind fun t => if t == k then evalB C k es env else .ok d
/-- the tests of a comprehension (at most one) -/
def evalT (C : Cl) : EL → Env → R Bool
  | .nil, _ => .ok true
  | .cons e .nil, env => (eval C e env).bind truth
  | .cons _ (.cons _ _), _ => .bad
def evalI (C : Cl) : IT → Env → R (List D)
  | .it a, env => (eval C a env).bind elems
  | .r1 a, env => (eval C a env).bind fun x => match x with
    | .int n => chk (okR n) (.ok (rangeD 0 n.toNat))
    | _ => .bad
  | .r2 a b, env => (eval C a env).bind fun x => (eval C b env).bind fun y => match x, y with
    | .int i, .int j => chk (okR i && okR j && decide (j - i ≤ 16777216)) (.ok (rangeD i (j - i).toNat))
    | _, _ => .bad
  | .enu a, env => (eval C a env).bind fun x => (sqs x).bind fun ds => .ok (enumL ds)
  | .zip a b, env => (eval C a env).bind fun x => (eval C b env).bind fun y => match x, y with
    | .tup xs, .tup ys => .ok (zipL xs ys)
    | .lst xs, .lst ys => .ok (zipL xs ys)
    | _, _ => .bad
end

/-! ### statements -/
inductive Slot where | emp | val (d : D) | own (d : D)
namespace Slot
def data : Slot → Option D
  | .emp => none
  | .val d => some d
  | .own d => some d
def isOwn : Slot → Bool
  | .own _ => true
  | _ => false
def demote : Slot → Slot
  | .own d => .val d
  | s => s
end Slot
abbrev SEnv := List Slot
def datas (env : SEnv) : Env := env.map Slot.data
def Slot.plain : Slot → Option D
  | .val d => some d
  | _ => none
/-- what is no own list -/
def vals (env : SEnv) : Env := env.map Slot.plain
def isRng : IT → Bool
  | .r1 _ => true
  | .r2 _ _ => true
  | _ => false
def ownAt (env : SEnv) (i : Nat) : Bool := match env[i]? with
  | some s => s.isOwn
  | none => false
def demote : List Nat → SEnv → SEnv
  | [], env => env
  | i :: is, env => demote is (match env[i]? with
    | some s => env.set i s.demote
    | none => env)
def forget : List Nat → SEnv → SEnv
  | [], env => env
  | i :: is, env => forget is (env.set i .emp)
/-- what a store may keep of the names os that it reads -/
def prep (os : List Nat) (d : D) (env : SEnv) : SEnv := if (os.any (ownAt env)) && !noList d then demote os env else env
def prepL (os : List Nat) (ds : List D) (env : SEnv) : SEnv := if (os.any (ownAt env)) && !noLists ds then demote os env else env
inductive Fl where | nx (env : SEnv) | rt (d : D) | ct (env : SEnv)
mutual
inductive S where
  /-- x = e; os: the names that e reads and that may own -/
  | asg (i : Nat) (e : E) (os : List Nat)
  /-- x = e, a new list (fr = false) or dict, that x owns -/
  | asgO (i : Nat) (e : E) (os : List Nat)
  /-- x = e, a new list that stays as it is -/
  | asgF (i : Nat) (e : E) (os : List Nat)
  | asgT (is : List Nat) (e : E) (os : List Nat)
  /-- a, b = a new list -/
  | asgL (is : List Nat) (e : E) (os : List Nat)
  | setI (x : Nat) (i e : E) (os : List Nat)
  | app (x : Nat) (e : E) (os : List Nat)
  | ext (x : Nat) (e : E) (os : List Nat)
  | pop (y x : Nat)
  | appI (x : Nat) (k e : E) (os : List Nat)
  | ret (e : E)
  | iff (t : E) (a b : SL)
  | for_ (tg : TG) (it : IT) (body : SL) (fg os : List Nat)
  | whl (t : E) (body : SL) (fg : List Nat)
  | cont
  | rse (c : Nat)
  /-- try: body, except MillError: x = None; as = some (e, cs): except MillError as e: x = ("no", isinstance(e, c) ..) -/
  | tr (body : SL) (x : Nat) (as : Option (Nat × List Nat))
inductive SL where
  | nil | cons (s : S) (ss : SL)
end
def setTS : TG → D → SEnv → R SEnv
  | .one i, d, env => .ok (env.set i (.val d))
  | .tup is, .tup ds, env => chk (decide (ds.length = is.length)) (.ok (go is ds env))
  | _, _, _ => .bad
where go : List Nat → List D → SEnv → SEnv
  | i :: is, d :: ds, env => go is ds (env.set i (.val d))
  | _, _, env => env
/-- a list, unpacked -/
def unL : D → D
  | .lst ds => .tup ds
  | _ => .non
def forL (body : SEnv → R Fl) (tg : TG) (fg : List Nat) : List D → SEnv → R Fl
  | [], env => .ok (.nx env)
  | d :: ds, env => (setTS tg d env).bind fun env1 => (body env1).bind fun fl => match fl with
    | .nx e => forL body tg fg ds (forget fg e)
    | .ct e => forL body tg fg ds (forget fg e)
    | .rt v => .ok (.rt v)
def whlL (test : SEnv → R Bool) (body : SEnv → R Fl) (fg : List Nat) : Nat → SEnv → R Fl
  | 0, _ => .bad
  | n + 1, env => (test env).bind fun k => if k then (body env).bind fun fl => match fl with
      | .nx e => whlL test body fg n (forget fg e)
      | .ct e => whlL test body fg n (forget fg e)
      | .rt v => .ok (.rt v)
    else .ok (.nx env)
def ownL (env : SEnv) (x : Nat) (f : List D → R Fl) : R Fl := match env[x]? with
  | some (.own (.lst ds)) => f ds
  | _ => .bad
def putI (env : SEnv) (x : Nat) (k v : D) : R Fl := match env[x]? with
  | some (.own (.lst ds)) => match k with
    | .int i => match ixN ds.length i with
      | some j => .ok (.nx (env.set x (.own (.lst (ds.set j v)))))
      | none => .bad
    | _ => .bad
  | some (.own (.dic kvs)) => chk (keyT k && decide (kvs.length < LIM)) (.ok (.nx (env.set x (.own (.dic (put kvs k v))))))
  | _ => .bad
/-- is an exception k of the class c: 0, 1: the own ones; 2: what they both are; 3: ValueError -/
def isExc (k c : Nat) : Bool := decide (k = c) || decide (2 ≤ c)
def suiteD (k : Nat) : Option (Nat × List Nat) → D
  | none => .non
  | some (_, cs) => .tup (.str "no" :: cs.map fun c => .bl (isExc k c))
mutual
def exec (C : Cl) : S → SEnv → R Fl
  | .asg i e os, env => (eval C e (vals (demote os env))).bind fun d => .ok (.nx ((prep os d env).set i (.val d)))
  | .asgO i e os, env => (eval C e (vals (demote os env))).bind fun d => match d with
    | .lst ds => .ok (.nx ((prepL os ds env).set i (.own d)))
    | .dic [] => .ok (.nx (env.set i (.own d)))
    | _ => .bad
  | .asgF i e os, env => (eval C e (vals (demote os env))).bind fun d => match d with
    | .lst ds => .ok (.nx ((prepL os ds env).set i (.val d)))
    | _ => .bad
  | .asgT is e os, env => (eval C e (vals (demote os env))).bind fun d => (setTS (.tup is) d (prep os d env)).bind fun env' => .ok (.nx env')
  | .asgL is e os, env => (eval C e (vals (demote os env))).bind fun d => (setTS (.tup is) (unL d) (prep os d env)).bind fun env' => .ok (.nx env')
  | .setI x i e os, env => chk (ownAt env x) ((eval C e (vals (demote os env))).bind fun d => (eval C i (vals (demote os env))).bind fun k => chk (!(os.any (ownAt env)) || (noList d && noList k)) (putI env x k d))
  | .app x e os, env => ownL env x fun ds => (eval C e (vals (demote os env))).bind fun d => chk (!(os.any (ownAt env)) || noList d) (chk (decide (ds.length < LIM)) (.ok (.nx (env.set x (.own (.lst (ds ++ [d])))))))
  | .ext x e os, env => ownL env x fun ds => (eval C e (vals (demote os env))).bind fun d => (sqs d).bind fun es => chk (!(os.any (ownAt env)) || noLists es) (chk (decide (ds.length + es.length ≤ LIM)) (.ok (.nx (env.set x (.own (.lst (ds ++ es)))))))
  | .pop y x, env => ownL env x fun ds => match ds.getLast? with
    | some d => .ok (.nx ((env.set x (.own (.lst ds.dropLast))).set y (.val d)))
    | none => .bad
  | .appI _ _ _ _, _ => .bad
  | .ret e, env => (eval C e (datas env)).bind fun d => .ok (.rt d)
  | .iff t a b, env => (eval C t (datas env)).bind fun x => (truth x).bind fun k => if k then execL C a env else execL C b env
  | .for_ tg it body fg os, env => (evalI C it (vals (demote os env))).bind fun ds => forL (execL C body) tg fg ds (forget fg (if isRng it then env else demote os env))
  | .whl t body fg, env => whlL (fun env => (eval C t (datas env)).bind truth) (execL C body) fg C.wf (forget fg env)
  | .cont, env => .ok (.ct env)
  | .rse c, _ => .exc c
  | .tr body x as, env => match execL C body env with
    | .exc k => chk (decide (k < 2)) (.ok (.nx ((env.map fun _ => Slot.emp).set x (.val (suiteD k as)))))
    | .ok (.nx e) => .ok (.nx e)
    | _ => .bad
def execL (C : Cl) : SL → SEnv → R Fl
  | .nil, env => .ok (.nx env)
  | .cons s ss, env => (exec C s env).bind fun fl => match fl with
    | .nx env' => execL C ss env'
    | fl => .ok fl
end

structure FD where
  name : Str
  nps : Nat
  N : List Str
  muts : List Nat
  body : SL
def startE (fd : FD) (ds : List D) : SEnv := ds.map .val ++ List.replicate (fd.N.length - ds.length) .emp
def outR : Fl → R D
  | .rt d => .ok d
  | .nx _ => .ok .non
  | .ct _ => .bad
/-- the k calls deep worth of def f -/
def callE (defs : Nat → Option FD) (glob : Nat → Option D) (wf : Nat) : Nat → Nat → List D → R D
  | 0, _, _ => .bad
  | k + 1, f, ds => match defs f with
    | none => .bad
    | some fd => chk (decide (ds.length = fd.nps)) ((execL ⟨callE defs glob wf k, glob, wf⟩ fd.body (startE fd ds)).bind outR)
end Ev

/-! Ev2: what represents data in the abstract heap; the readings. -/
namespace Ev
open PySem PySem.Spec L2
open PyProof.Rows hiding St

/-- a dict whose keys are tuples, as its one object tells it -/
def DicObj (P : Program) (w : World) (H : Hp) (a : Addr) (xs : List (NestedKey × Addr × V)) : Prop :=
  (a == sysModules) = false ∧ xs.length ≤ sizeLine ∧ ∃ (o : Obj) (es : Array DictEntry) (ep : Nat), H a = some (.ext fun h => h.get? a = some o) ∧ o.ExactDict ∧ o.data = .dict es ep ∧
    ∃ ys : List (NestedKey × Addr × Value), Paired (fun p q => p.1 = q.1 ∧ p.2.1 = q.2.1 ∧ RelV p.2.2 q.2.2) xs ys ∧ es.toList = ys.map (entryOfKey (nestedKind P w)) ∧ (ys.map (·.1)).Nodup
mutual
def nk : D → NestedKey
  | .non => .none
  | .int i => .num i
  | .str s => .text s
  | .tup ds => .tup (nks ds)
  | .bl _ => .none
  | .lst _ => .none
  | .scr _ => .none
  | .dic _ => .none
  | .tab _ => .none
def nks : List D → List NestedKey
  | [] => []
  | d :: ds => nk d :: nks ds
end
/-! ### written tables: keys None, ints, texts; values constants -/
def fkey : D → Option Key
  | .int i => some (.inl i)
  | .str s => some (.inr s)
  | _ => none
def cstV : D → Option V
  | .non => some .non
  | .int i => some (.int i)
  | .str s => some (.str s)
  | _ => none
def TabL (P : Program) (w : World) : List DictEntry → List (D × D) → Prop
  | [], [] => True
  | e :: es, (k, d) :: kvs => (keyF k = true ∧ (noneKind P w).is (fkey k) e.key = true ∧ e.hash = (noneKind P w).hash (fkey k) ∧ ∃ v, cstV d = some v ∧ RelV v e.val) ∧ TabL P w es kvs
  | _, _ => False
def TabO (P : Program) (w : World) (o : Obj) (kvs : List (D × D)) : Prop := o.ExactDict ∧ ∃ (es : Array DictEntry) (ep : Nat), o.data = .dict es ep ∧ TabL P w es.toList kvs
def TabAt (P : Program) (w : World) (K : PySem.W.Frag) (a : Addr) (kvs : List (D × D)) : Prop := (a == sysModules) = false ∧ ∃ o, K.lookup a = some o ∧ TabO P w o kvs
structure Wd where
  P : Program
  w : World
  K : PySem.W.Frag
mutual
inductive Rep (T : Wd) (G : Addr → Prop) (H : Hp) : V → D → Prop
  | non : Rep T G H .non .non
  | bl (b : Bool) : Rep T G H (.bl b) (.bl b)
  | int (i : Int) : Rep T G H (.int i) (.int i)
  | str (s : Str) : Rep T G H (.str s) (.str s)
  | tup {a : Addr} {vs : List V} {ds : List D} : TupAt H a vs → G a → Reps T G H vs ds → Rep T G H (.ref a) (.tup ds)
  | lst {a : Addr} {vs : List V} {ds : List D} : H a = some (.lst vs) → G a → Reps T G H vs ds → Rep T G H (.ref a) (.lst ds)
  | scr {a : Addr} {ns : List Int} : (Rd H a (.lst (ns.map V.int)) ∧ G a) ∨ (∀ H', SqL T.K H' a (ns.map V.int)) → Rep T G H (.ref a) (.scr ns)
  | dic {a : Addr} {xs : List (NestedKey × Addr × V)} {kvs : List (D × D)} : DicObj T.P T.w H a xs → G a → Repk T G H xs kvs → Rep T G H (.ref a) (.dic kvs)
  | tab {a : Addr} {kvs : List (D × D)} : TabAt T.P T.w T.K a kvs → Rep T G H (.ref a) (.tab kvs)
inductive Reps (T : Wd) (G : Addr → Prop) (H : Hp) : List V → List D → Prop
  | nil : Reps T G H [] []
  | cons {v : V} {d : D} {vs : List V} {ds : List D} : Rep T G H v d → Reps T G H vs ds → Reps T G H (v :: vs) (d :: ds)
inductive Repk (T : Wd) (G : Addr → Prop) (H : Hp) : List (NestedKey × Addr × V) → List (D × D) → Prop
  | nil : Repk T G H [] []
  | cons {a : Addr} {v : V} {k d : D} {xs : List (NestedKey × Addr × V)} {kvs : List (D × D)} : Rep T G H (.ref a) k → keyT k = true → Rep T G H v d → Repk T G H xs kvs → Repk T G H ((nk k, a, v) :: xs) ((k, d) :: kvs)
end

/-- what stands at G stays; what is there stays there -/
structure Evo (G : Addr → Prop) (H H' : Hp) : Prop where
  keep : ∀ a o, G a → H a = some o → H' a = some o
  free : ∀ a, H' a = none → H a = none
abbrev Ext (H H' : Hp) : Prop := ∀ a o, H a = some o → H' a = some o
theorem Ext.evo {G : Addr → Prop} {H H' : Hp} (e : Ext H H') : Evo G H H' := ⟨fun a o _ h => e a o h, fun a h => by
  cases q : H a with
  | none => rfl
  | some o => rw [e a o q] at h; cases h⟩
theorem Ext.refl (H : Hp) : Ext H H := fun _ _ h => h
theorem Ext.trans {H H1 H2 : Hp} (a : Ext H H1) (b : Ext H1 H2) : Ext H H2 := fun c o h => b c o (a c o h)
theorem Ext.upd {H : Hp} {p : Addr} {o : HO} (h : H p = none) : Ext H (upd H p o) := fun b x e => by
  rw [upd_ne (ne_of_none e h)]; exact e
theorem Evo.refl {G : Addr → Prop} (H : Hp) : Evo G H H := ⟨fun _ _ _ h => h, fun _ h => h⟩
abbrev Fresh (G : Addr → Prop) (H : Hp) : Prop := ∀ a, H a = none → G a
theorem Fresh.evo {G : Addr → Prop} {G' : Addr → Prop} {H H' : Hp} (f : Fresh G H) (e : Evo G' H H') : Fresh G H' := fun a h => f a (e.free a h)
theorem Fresh.ext {G : Addr → Prop} {H H' : Hp} (f : Fresh G H) (e : Ext H H') : Fresh G H' := f.evo (G' := G) e.evo

section
variable {T : Wd} {G G' : Addr → Prop} {H H' : Hp}
theorem DicObj.at {P : Program} {w : World} {a : Addr} {xs : List (NestedKey × Addr × V)} (h : DicObj P w H a xs) (k : ∀ o, H a = some o → H' a = some o) : DicObj P w H' a xs := by
  obtain ⟨n, z, o, es, ep, e, r⟩ := h
  exact ⟨n, z, o, es, ep, k _ e, r⟩
theorem sqL_at {K : PySem.W.Frag} {a : Addr} {xs : List V} (h : SqL K H a xs) (k : ∀ o, H a = some o → H' a = some o) : SqL K H' a xs := by
  rcases h with (h | ⟨o, h⟩) | h
  · exact .inl (.inl (k _ h))
  · exact .inl (.inr ⟨o, k _ h⟩)
  · exact .inr h
mutual
theorem Rep.evo (e : Evo G H H') : ∀ {v : V} {d : D}, Rep T G H v d → Rep T G H' v d
  | _, _, .non => .non
  | _, _, .bl b => .bl b
  | _, _, .int i => .int i
  | _, _, .str s => .str s
  | _, _, .tup h g r => .tup (h.keep fun o => e.keep _ o g) g (Reps.evo e r)
  | _, _, .lst h g r => .lst (e.keep _ _ g h) g (Reps.evo e r)
  | _, _, .scr h => .scr (h.imp (fun h => ⟨h.1.imp (fun q => e.keep _ _ h.2 q) (fun ⟨o, q⟩ => ⟨o, e.keep _ _ h.2 q⟩), h.2⟩) id)
  | _, _, .dic h g r => .dic (h.at fun o q => e.keep _ _ g q) g (Repk.evo e r)
  | _, _, .tab h => .tab h
theorem Reps.evo (e : Evo G H H') : ∀ {vs : List V} {ds : List D}, Reps T G H vs ds → Reps T G H' vs ds
  | _, _, .nil => .nil
  | _, _, .cons h r => .cons (Rep.evo e h) (Reps.evo e r)
theorem Repk.evo (e : Evo G H H') : ∀ {xs : List (NestedKey × Addr × V)} {ds : List (D × D)}, Repk T G H xs ds → Repk T G H' xs ds
  | _, _, .nil => .nil
  | _, _, .cons h k h2 r => .cons (Rep.evo e h) k (Rep.evo e h2) (Repk.evo e r)
end
mutual
theorem Rep.imp (i : ∀ a, G a → G' a) : ∀ {v : V} {d : D}, Rep T G H v d → Rep T G' H v d
  | _, _, .non => .non
  | _, _, .bl b => .bl b
  | _, _, .int i => .int i
  | _, _, .str s => .str s
  | _, _, .tup h g r => .tup h (i _ g) (Reps.imp i r)
  | _, _, .lst h g r => .lst h (i _ g) (Reps.imp i r)
  | _, _, .scr h => .scr (h.imp (fun h => ⟨h.1, i _ h.2⟩) id)
  | _, _, .dic h g r => .dic h (i _ g) (Repk.imp i r)
  | _, _, .tab h => .tab h
theorem Reps.imp (i : ∀ a, G a → G' a) : ∀ {vs : List V} {ds : List D}, Reps T G H vs ds → Reps T G' H vs ds
  | _, _, .nil => .nil
  | _, _, .cons h r => .cons (Rep.imp i h) (Reps.imp i r)
theorem Repk.imp (i : ∀ a, G a → G' a) : ∀ {xs : List (NestedKey × Addr × V)} {ds : List (D × D)}, Repk T G H xs ds → Repk T G' H xs ds
  | _, _, .nil => .nil
  | _, _, .cons h k h2 r => .cons (Rep.imp i h) k (Rep.imp i h2) (Repk.imp i r)
end
/-- all that data lean on stands there -/
abbrev Al (G : Addr → Prop) (H : Hp) : Addr → Prop := fun a => G a ∧ H a ≠ none
theorem Rd.al {a : Addr} {u : HO} (h : Rd H a u) : H a ≠ none := by
  rcases h with h | ⟨o, h⟩ <;> rw [h] <;> simp
theorem DicObj.al {P : Program} {w : World} {a : Addr} {xs : List (NestedKey × Addr × V)} (h : DicObj P w H a xs) : H a ≠ none := by
  obtain ⟨_, _, _, _, _, h, _⟩ := h; rw [h]; simp
mutual
theorem Rep.al : ∀ {v : V} {d : D}, Rep T G H v d → Rep T (Al G H) H v d
  | _, _, .non => .non
  | _, _, .bl b => .bl b
  | _, _, .int i => .int i
  | _, _, .str s => .str s
  | _, _, .tup h g r => .tup h ⟨g, h.here⟩ (Reps.al r)
  | _, _, .lst h g r => .lst h ⟨g, by rw [h]; simp⟩ (Reps.al r)
  | _, _, .scr h => .scr (h.imp (fun h => ⟨h.1, h.2, Rd.al h.1⟩) id)
  | _, _, .dic h g r => .dic h ⟨g, h.al⟩ (Repk.al r)
  | _, _, .tab h => .tab h
theorem Reps.al : ∀ {vs : List V} {ds : List D}, Reps T G H vs ds → Reps T (Al G H) H vs ds
  | _, _, .nil => .nil
  | _, _, .cons h r => .cons (Rep.al h) (Reps.al r)
theorem Repk.al : ∀ {xs : List (NestedKey × Addr × V)} {ds : List (D × D)}, Repk T G H xs ds → Repk T (Al G H) H xs ds
  | _, _, .nil => .nil
  | _, _, .cons h k h2 r => .cons (Rep.al h) k (Rep.al h2) (Repk.al r)
end
theorem Rep.ext {v : V} {d : D} (r : Rep T G H v d) (e : Ext H H') : Rep T G H' v d := Rep.evo e.evo r
theorem Reps.ext {v : List V} {d : List D} (r : Reps T G H v d) (e : Ext H H') : Reps T G H' v d := Reps.evo e.evo r
theorem Reps.length : ∀ {vs : List V} {ds : List D}, Reps T G H vs ds → vs.length = ds.length
  | _, _, .nil => rfl
  | _, _, .cons _ r => congrArg (· + 1) (Reps.length r)
theorem Reps.append : ∀ {vs ws : List V} {ds es : List D}, Reps T G H vs ds → Reps T G H ws es → Reps T G H (vs ++ ws) (ds ++ es)
  | _, _, _, _, .nil, s => s
  | _, _, _, _, .cons h r, s => .cons h (Reps.append r s)
theorem Reps.get : ∀ {vs : List V} {ds : List D} {i : Nat} {d : D}, Reps T G H vs ds → ds[i]? = some d → ∃ v, vs[i]? = some v ∧ Rep T G H v d
  | _, _, _, _, .nil, e => by simp at e
  | _, _, 0, _, .cons h _, e => by simp at e; subst e; exact ⟨_, rfl, h⟩
  | _, _, i + 1, _, .cons _ r, e => by
    obtain ⟨v, h1, h2⟩ := Reps.get (i := i) r (by simpa using e)
    exact ⟨v, by simpa using h1, h2⟩
theorem Reps.getV : ∀ {vs : List V} {ds : List D} {i : Nat} {v : V}, Reps T G H vs ds → vs[i]? = some v → ∃ d, ds[i]? = some d ∧ Rep T G H v d
  | _, _, _, _, .nil, e => by simp at e
  | _, _, 0, _, .cons h _, e => by simp at e; subst e; exact ⟨_, rfl, h⟩
  | _, _, i + 1, _, .cons _ r, e => by
    obtain ⟨v, h1, h2⟩ := Reps.getV (i := i) r (by simpa using e)
    exact ⟨v, by simpa using h1, h2⟩
theorem Reps.take : ∀ {vs : List V} {ds : List D} (n : Nat), Reps T G H vs ds → Reps T G H (vs.take n) (ds.take n)
  | _, _, 0, _ => .nil
  | _, _, _ + 1, .nil => .nil
  | _, _, n + 1, .cons h r => .cons h (Reps.take n r)
theorem Reps.drop : ∀ {vs : List V} {ds : List D} (n : Nat), Reps T G H vs ds → Reps T G H (vs.drop n) (ds.drop n)
  | _, _, 0, r => r
  | _, _, _ + 1, .nil => .nil
  | _, _, n + 1, .cons _ r => Reps.drop n r
theorem Reps.set {v : V} {d : D} (h : Rep T G H v d) : ∀ {vs : List V} {ds : List D} (n : Nat), Reps T G H vs ds → Reps T G H (vs.set n v) (ds.set n d)
  | _, _, _, .nil => .nil
  | _, _, 0, .cons _ r => .cons h r
  | _, _, n + 1, .cons q r => .cons q (Reps.set h n r)
theorem Reps.rep {vs : List V} {ds : List D} (h : Reps T G H vs ds) : ∀ k : Nat, Reps T G H (List.replicate k vs).flatten (List.replicate k ds).flatten
  | 0 => .nil
  | k + 1 => by
    rw [List.replicate_succ, List.flatten_cons, List.replicate_succ, List.flatten_cons]
    exact h.append (Reps.rep h k)
theorem Reps.ints : ∀ ns : List Int, Reps T G H (ns.map V.int) (ns.map D.int)
  | [] => .nil
  | n :: ns => .cons (.int n) (Reps.ints ns)
theorem ints?_map : ∀ {ds : List D} {ns : List Int}, ints? ds = some ns → ds = ns.map D.int
  | [], ns, h => by simp [ints?] at h; subst h; rfl
  | .int i :: ds, ns, h => by
    simp only [ints?, Option.map_eq_some_iff] at h
    obtain ⟨ms, h, rfl⟩ := h
    rw [ints?_map h]; rfl
  | .non :: _, _, h => by simp [ints?] at h
  | .bl _ :: _, _, h => by simp [ints?] at h
  | .str _ :: _, _, h => by simp [ints?] at h
  | .tup _ :: _, _, h => by simp [ints?] at h
  | .lst _ :: _, _, h => by simp [ints?] at h
  | .scr _ :: _, _, h => by simp [ints?] at h
  | .dic _ :: _, _, h => by simp [ints?] at h
  | .tab _ :: _, _, h => by simp [ints?] at h
theorem Reps.of_ints : ∀ {vs : List V} {ns : List Int}, Reps T G H vs (ns.map D.int) → vs = ns.map V.int
  | _, [], r => by cases r; rfl
  | _, n :: ns, r => by
    cases r with
    | cons h r => cases h; rw [Reps.of_ints r]; rfl
theorem bls?_map : ∀ {ds : List D} {ns : List Bool}, bls? ds = some ns → ds = ns.map D.bl
  | [], ns, h => by simp [bls?] at h; subst h; rfl
  | .bl i :: ds, ns, h => by
    simp only [bls?, Option.map_eq_some_iff] at h
    obtain ⟨ms, h, rfl⟩ := h
    rw [bls?_map h]; rfl
  | .non :: _, _, h => by simp [bls?] at h
  | .int _ :: _, _, h => by simp [bls?] at h
  | .str _ :: _, _, h => by simp [bls?] at h
  | .tup _ :: _, _, h => by simp [bls?] at h
  | .lst _ :: _, _, h => by simp [bls?] at h
  | .scr _ :: _, _, h => by simp [bls?] at h
  | .dic _ :: _, _, h => by simp [bls?] at h
  | .tab _ :: _, _, h => by simp [bls?] at h
theorem Reps.of_bls : ∀ {vs : List V} {ns : List Bool}, Reps T G H vs (ns.map D.bl) → vs = ns.map V.bl
  | _, [], r => by cases r; rfl
  | _, n :: ns, r => by
    cases r with
    | cons h r => cases h; rw [Reps.of_bls r]; rfl
end

/-! ### readings -/
/-- the classes of the own exceptions; what is wished when one leaves -/
structure Ws where
  T : Wd
  C : Cl
  xc : Nat → Value
  W : WX
/-- lists and tuples have a largest length -/
structure HB (H : Hp) : Prop where
  l : ∀ a xs, H a = some (.lst xs) → xs.length ≤ sizeLine
  t : ∀ a xs, TupAt H a xs → xs.length ≤ sizeLine
theorem Inv.hb {X : Cx} {pins : List (Addr × Obj)} {σ : St} {H : Hp} {s : Shared} (I : Inv X pins σ H s) : HB H :=
  ⟨fun a xs h => (I.hok a _ h).1, fun a xs ⟨o, h, _⟩ => (show ObjOk X.prog X.w H s.heap a (.frz o (.tup xs)) from I.hok a _ h).2.1⟩
/-- what follows an outcome -/
def AftX {α : Type} (w : Ws) (σ : St) (H : Hp) (P : α → Hp → Prop) : R α → Prop
  | .ok a => ∀ H', Ext H H' → HB H' → P a H'
  | .exc c => ∀ H', Ext H H' → w.W (w.xc c) none σ H'
  | .bad => False
/-- what follows an expression whose value is told -/
abbrev Aft (w : Ws) (G : Addr → Prop) (σ : St) (H : Hp) (Q : VK) : R D → Prop := AftX w σ H fun d H' => ∀ v, Rep w.T G H' v d → Q v H'
abbrev AftL (w : Ws) (G : Addr → Prop) (σ : St) (H : Hp) (Q : List V → Hp → Prop) : R (List D) → Prop := AftX w σ H fun d H' => ∀ v, Reps w.T G H' v d → Q v H'
abbrev AftB (w : Ws) (σ : St) (H : Hp) (Q : Bool → Hp → Prop) : R Bool → Prop := AftX w σ H Q
def EnvOk (T : Wd) (G : Addr → Prop) (H : Hp) (σ : St) (env : Env) : Prop := ∀ (i : Nat) (d : D), env[i]? = some (some d) → ∃ v : V, σ[i]? = some (some v) ∧ Rep T G H v d
def tE (w : Ws) (e : E) : TE := fun σ H Q => ∃ G env, Fresh G H ∧ EnvOk w.T G H σ env ∧ Aft w G σ H Q (eval w.C e env)
def tL (w : Ws) (es : EL) : TA := fun σ H Q => ∃ G env, Fresh G H ∧ EnvOk w.T G H σ env ∧ AftL w G σ H Q (evalL w.C es env)
def tT (w : Ws) (e : E) : TT := fun σ H Q => ∃ G env, Fresh G H ∧ EnvOk w.T G H σ env ∧ AftB w σ H Q ((eval w.C e env).bind truth)
section
variable {w : Ws} {G : Addr → Prop} {σ : St} {H H' : Hp} {env : Env} {α β : Type}
theorem EnvOk.ext (h : EnvOk w.T G H σ env) (e : Ext H H') : EnvOk w.T G H' σ env := fun i d q => by
  obtain ⟨v, h1, h2⟩ := h i d q
  exact ⟨v, h1, h2.ext e⟩
theorem AftX.ext {P : α → Hp → Prop} {r : R α} (h : AftX w σ H P r) (e : Ext H H') : AftX w σ H' P r := by
  cases r with
  | ok d => exact fun H2 e2 b => h H2 (e.trans e2) b
  | exc c => exact fun H2 e2 => h H2 (e.trans e2)
  | bad => exact h
theorem AftX.bind {P : β → Hp → Prop} {r : R α} {f : α → R β} (h : AftX w σ H P (r.bind f)) : AftX w σ H (fun a H' => AftX w σ H' P (f a)) r := by
  cases r with
  | ok d => exact fun H2 e2 _ => AftX.ext h e2
  | exc c => exact h
  | bad => exact h
theorem AftX.imp {P P' : α → Hp → Prop} {r : R α} (h : AftX w σ H P r) (i : ∀ a H', Ext H H' → HB H' → P a H' → P' a H') : AftX w σ H P' r := by
  cases r with
  | ok d => exact fun H2 e2 b => i d H2 e2 b (h H2 e2 b)
  | exc c => exact h
  | bad => exact h
theorem AftX.ok {P : α → Hp → Prop} {a : α} (h : AftX w σ H P (.ok a)) (b : HB H) : P a H := h H (Ext.refl H) b
/-- one expression, then what is told of its value -/
theorem tE_bind {e : E} {f : D → R β} {P : β → Hp → Prop} {R' : V → Hp → Prop} (fr : Fresh G H) (en : EnvOk w.T G H σ env) (h : AftX w σ H P ((eval w.C e env).bind f))
    (k : ∀ d v H', Ext H H' → HB H' → Rep w.T G H' v d → AftX w σ H' P (f d) → R' v H') : tE w e σ H R' :=
  ⟨G, env, fr, en, h.bind.imp fun d H' e b h' v r => k d v H' e b r h'⟩
theorem tL_bind {e : EL} {f : List D → R β} {P : β → Hp → Prop} {R' : List V → Hp → Prop} (fr : Fresh G H) (en : EnvOk w.T G H σ env) (h : AftX w σ H P ((evalL w.C e env).bind f))
    (k : ∀ d v H', Ext H H' → HB H' → Reps w.T G H' v d → AftX w σ H' P (f d) → R' v H') : tL w e σ H R' :=
  ⟨G, env, fr, en, h.bind.imp fun d H' e b h' v r => k d v H' e b r h'⟩
theorem R.bind_assoc {γ : Type} (r : R α) (f : α → R β) (g : β → R γ) : (r.bind f).bind g = r.bind fun a => (f a).bind g := by
  cases r <;> rfl
theorem tT_bind {e : E} {f : Bool → R β} {P : β → Hp → Prop} {R' : Bool → Hp → Prop} (fr : Fresh G H) (en : EnvOk w.T G H σ env) (h : AftX w σ H P ((eval w.C e env).bind fun d => (truth d).bind f))
    (k : ∀ d H', Ext H H' → HB H' → AftX w σ H' P (f d) → R' d H') : tT w e σ H R' := by
  refine ⟨G, env, fr, en, ?_⟩
  rw [← R.bind_assoc] at h
  exact h.bind.imp fun d H' e b h' => k d H' e b h'
end
theorem PE.known {X : Cx} {e : Expr} {t : TE} (h : PE X e t) : PE X e (fun σ H Q => t σ H fun x H1 => HB H1 → Q x H1) := ⟨fun pins s σ H Q I q =>
  thn (h.run pins s σ H _ I q) fun u s' ⟨v, H', I', r, q'⟩ => ⟨v, H', I', r, q' (Inv.hb I')⟩⟩
theorem PT.known {X : Cx} {e : Expr} {t : TT} (h : PT X e t) : PT X e (fun σ H Q => t σ H fun x H1 => HB H1 → Q x H1) := ⟨fun pins s σ H Q I q =>
  thn (h.run pins s σ H _ I q) fun u s' ⟨H', I', q'⟩ => ⟨H', I', q' (Inv.hb I')⟩⟩
theorem PA.known {X : Cx} {e : List Expr} {t : TA} (h : PA X e t) : PA X e (fun σ H Q => t σ H fun x H1 => HB H1 → Q x H1) := ⟨fun pos pins s σ H Q I q =>
  thn (h.run pos pins s σ H _ I q) fun u s' ⟨v, H', I', r, q'⟩ => ⟨v, H', I', r, q' (Inv.hb I')⟩⟩
theorem PE.imp {X : Cx} {e : Expr} {t t' : TE} (h : PE X e t) (i : ∀ σ H Q, t' σ H Q → t σ H Q) : PE X e t' := ⟨fun pins s σ H Q I q => h.run pins s σ H Q I (i σ H Q q)⟩
theorem PT.imp {X : Cx} {e : Expr} {t t' : TT} (h : PT X e t) (i : ∀ σ H Q, t' σ H Q → t σ H Q) : PT X e t' := ⟨fun pins s σ H Q I q => h.run pins s σ H Q I (i σ H Q q)⟩
theorem PA.imp {X : Cx} {e : List Expr} {t t' : TA} (h : PA X e t) (i : ∀ σ H Q, t' σ H Q → t σ H Q) : PA X e t' := ⟨fun pos pins s σ H Q I q => h.run pos pins s σ H Q I (i σ H Q q)⟩
theorem PS.imp {X : Cx} {e : Stmt} {t t' : TS} (h : PS X e t) (i : ∀ D σ H, t' D σ H → t D σ H) : PS X e t' := ⟨fun pins s σ H D I q => h.run pins s σ H D I (i D σ H q)⟩
theorem PSs.imp {X : Cx} {e : List Stmt} {t t' : TS} (h : PSs X e t) (i : ∀ D σ H, t' D σ H → t D σ H) : PSs X e t' := ⟨fun pins s σ H D I q => h.run pins s σ H D I (i D σ H q)⟩

end Ev

/-! Ev3: operators and comparisons. -/
namespace Ev
open PySem PySem.Spec L2
open PyProof.Rows hiding St

theorem LIM_eq : LIM = sizeLine := by rw [sizeLine_eq]; rfl

/-- two values, an operation that tells a value -/
def rD (T : Wd) (g : D → D → R D) : R2 := fun x y H Q => ∃ G dx dy d, Fresh G H ∧ Rep T G H x dx ∧ Rep T G H y dy ∧ g dx dy = .ok d ∧ ∀ v H', Ext H H' → Rep T G H' v d → Q v H'
def Wd.of (X : Cx) : Wd := ⟨X.prog, X.w, X.K⟩
theorem chk_ok {α : Type} {b : Bool} {r : R α} {a : α} (h : chk b r = .ok a) : b = true ∧ r = .ok a := by
  cases b with
  | true => exact ⟨rfl, h⟩
  | false => cases h
theorem chk_exc {α : Type} {b : Bool} {r : R α} {c : Nat} (h : chk b r = .exc c) : r = .exc c := by
  cases b with
  | true => exact h
  | false => cases h

mutual
theorem shap_ok : ∀ (n : Nat) (d : D), shap n d = true → (toPy d).canLay0 = true ∧ (toPy d).depth ≤ n
  | n, .non, _ => ⟨rfl, Nat.zero_le _⟩
  | n, .bl _, _ => ⟨rfl, Nat.zero_le _⟩
  | n, .int _, _ => ⟨rfl, Nat.zero_le _⟩
  | n, .str s, h => ⟨by simpa [shap, toPy, PyData.canLay0] using h, by simp [toPy, PyData.depth]⟩
  | n + 1, .tup ds, h => by
    obtain ⟨h1, h2⟩ := shaps_ok n ds (by simpa [shap] using h)
    exact ⟨by simpa [toPy, PyData.canLay0] using h1, by simp only [toPy, PyData.depth]; omega⟩
  | n + 1, .lst ds, h => by
    obtain ⟨h1, h2⟩ := shaps_ok n ds (by simpa [shap] using h)
    exact ⟨by simpa [toPy, PyData.canLay0] using h1, by simp only [toPy, PyData.depth]; omega⟩
  | 0, .tup ds, h => by simp [shap] at h
  | 0, .lst ds, h => by simp [shap] at h
  | n, .scr _, h => by cases n <;> simp [shap] at h
  | n, .dic _, h => by cases n <;> simp [shap] at h
  | n, .tab _, h => by cases n <;> simp [shap] at h
theorem shaps_ok : ∀ (n : Nat) (ds : List D), shaps n ds = true → PyData.canLayAll0 (toPys ds) = true ∧ PyData.depthAll (toPys ds) ≤ n
  | n, [], _ => ⟨rfl, Nat.zero_le _⟩
  | n, d :: ds, h => by
    simp only [shaps, Bool.and_eq_true] at h
    obtain ⟨h1, h2⟩ := shap_ok n d h.1
    obtain ⟨h3, h4⟩ := shaps_ok n ds h.2
    exact ⟨by simp [toPys, PyData.canLayAll0, h1, h3], by simp only [toPys, PyData.depthAll]; omega⟩
end
theorem shaped_of {d : D} (h : shape d = true) : SeqAt.shaped (toPy d) = true := by
  obtain ⟨h1, h2⟩ := shap_ok 60 d h
  simp only [SeqAt.shaped, h1, Bool.true_and, decide_eq_true_eq]; omega
section
variable {T : Wd} {G : Addr → Prop} {H : Hp}
mutual
theorem Rep.dp : ∀ {v : V} {d : D} {n : Nat}, Rep T G H v d → shap n d = true → Dp T.K H v (toPy d)
  | _, _, _, .non, _ => .non
  | _, _, _, .bl b, _ => .bl b
  | _, _, _, .int i, _ => .int i
  | _, _, _, .str s, _ => .str s
  | _, _, 0, .tup h g r, s => by simp [shap] at s
  | _, _, n + 1, .tup h g r, s => by
    rw [toPy]; exact .tup h.sq (Reps.dp r (by simpa [shap] using s))
  | _, _, 0, .lst h g r, s => by simp [shap] at s
  | _, _, n + 1, .lst h g r, s => by
    rw [toPy]; exact .lst (SqL.of h) (Reps.dp r (by simpa [shap] using s))
  | _, _, n, .scr h, s => by cases n <;> simp [shap] at s
  | _, _, n, .dic h g r, s => by cases n <;> simp [shap] at s
  | _, _, n, .tab h, s => by cases n <;> simp [shap] at s
theorem Reps.dp : ∀ {v : List V} {d : List D} {n : Nat}, Reps T G H v d → shaps n d = true → DpAll T.K H v (toPys d)
  | _, _, _, .nil, _ => .nil
  | _, _, n, .cons h r, s => by
    simp only [shaps, Bool.and_eq_true] at s
    rw [toPys]; exact .cons (Rep.dp h s.1) (Reps.dp r s.2)
end
end
section
variable {T : Wd} {G : Addr → Prop} {H : Hp} {Q : VK} {p : Addr} {vs : List V} {ds : List D}
theorem fin_tup (fr : Fresh G H) (r : Reps T G H vs ds) (q : ∀ v H', Ext H H' → Rep T G H' v (.tup ds) → Q v H') : NewTup H Q vs := fun p o hd hp =>
  q _ _ (Ext.upd hp) (.tup (TupAt.new hd) (fr p hp) (r.ext (Ext.upd hp)))
theorem fin_lst (fr : Fresh G H) (hp : H p = none) (r : Reps T G H vs ds) (q : ∀ v H', Ext H H' → Rep T G H' v (.lst ds) → Q v H') : Q (.ref p) (upd H p (.lst vs)) :=
  q _ _ (Ext.upd hp) (.lst upd_same (fr p hp) (r.ext (Ext.upd hp)))
end
section
variable {X : Cx}
theorem OpR.imp {f : Value → Value → Sem Value} {r r' : R2} (h : OpR X f r) (i : ∀ x y H Q, r' x y H Q → r x y H Q) : OpR X f r' :=
  fun pins s σ H x y v u Q I rx ry q => h pins s σ H x y v u Q I rx ry (i _ _ _ _ q)
theorem opD {f : Value → Value → Sem Value} {g : D → D → R D} (h : ∀ (pins : List (Addr × Obj)) (s : Shared) (σ : St) (H : Hp) (x y : V) (v u : Value) (Q : VK) (G : Addr → Prop) (dx dy d : D), Inv X pins σ H s → RelV x v → RelV y u → Fresh G H →
    Rep (.of X) G H x dx → Rep (.of X) G H y dy → g dx dy = .ok d → (∀ v H', Ext H H' → Rep (.of X) G H' v d → Q v H') → wpAny (model X.prog X.w) X.A (f v u) (EP X pins σ Q) X.xe s) : OpR X f (rD (.of X) g) := by
  intro pins s σ H x y v u Q I rx ry ⟨G, dx, dy, d, fr, r1, r2, e, q⟩
  exact h pins s σ H x y v u Q G dx dy d I rx ry fr r1 r2 e q

def bop : BO → Operator
  | .add => .Add
  | .sub => .Sub
  | .mul => .Mult
  | .mod => .Mod
  | .fdv => .FloorDiv
theorem small_ok {i : Int} (h : small i = true) : -(2 ^ 64) < i ∧ i < 2 ^ 64 := by
  simpa [small] using h
theorem op_binD (o : BO) : OpR X (binaryOp (bop o)) (rD (.of X) (binop o)) := by
  refine opD fun pins s σ H x y v u Q G dx dy d I rx ry fr r1 r2 e q => ?_
  cases o with
  | add =>
    cases dx <;> cases dy <;> simp only [binop] at e <;> try (cases e; done)
    · cases r1; cases r2; cases e
      exact op_add pins s σ H _ _ v u Q I rx ry ⟨_, _, rfl, rfl, q _ H (Ext.refl H) (.int _)⟩
    · obtain ⟨h1, h2⟩ := chk_ok e; cases h2
      cases r1; cases r2
      rw [LIM_eq, decide_eq_true_eq] at h1
      exact op_add_str pins s σ H _ _ v u Q I rx ry ⟨_, _, rfl, rfl, h1, q _ H (Ext.refl H) (.str _)⟩
    · obtain ⟨h1, h2⟩ := chk_ok e; cases h2
      rw [LIM_eq, decide_eq_true_eq] at h1
      cases r1 with
      | tup a1 g1 q1 =>
        cases r2 with
        | tup a2 g2 q2 =>
          rw [← q1.length, ← q2.length] at h1
          refine op_catF pins s σ H _ _ v u Q I rx ry ⟨_, _, _, _, rfl, rfl, a1.sq, a2.sq, h1, fun z => ?_, fun _ z => ?_, fun _ _ => ?_⟩
          · subst z; cases q1
            exact q _ H (Ext.refl H) (.tup a2 g2 (by simpa using q2))
          · subst z; cases q2
            exact q _ H (Ext.refl H) (.tup a1 g1 (by simpa using q1))
          · exact fin_tup fr (q1.append q2) q
    · obtain ⟨h1, h2⟩ := chk_ok e; cases h2
      rw [LIM_eq, decide_eq_true_eq] at h1
      cases r1 with
      | lst a1 g1 q1 =>
        cases r2 with
        | lst a2 g2 q2 =>
          rw [← q1.length, ← q2.length] at h1
          refine op_cat pins s σ H _ _ v u Q I rx ry ⟨_, _, _, _, rfl, rfl, a1, a2, h1, fun p hp => ?_⟩
          exact fin_lst fr hp (q1.append q2) q
  | sub =>
    cases dx <;> cases dy <;> simp only [binop] at e <;> try (cases e; done)
    cases r1; cases r2; cases e
    exact op_sub pins s σ H _ _ v u Q I rx ry ⟨_, _, rfl, rfl, q _ H (Ext.refl H) (.int _)⟩
  | mul =>
    cases dx <;> cases dy <;> simp only [binop] at e <;> try (cases e; done)
    · obtain ⟨h1, h2⟩ := chk_ok e; cases h2
      cases r1; cases r2
      refine op_mul pins s σ H _ _ v u Q I rx ry ⟨_, _, rfl, rfl, ?_, q _ H (Ext.refl H) (.int _)⟩
      rcases Bool.or_eq_true_iff.mp h1 with h | h
      · exact .inl (small_ok h)
      · exact .inr (small_ok h)
    · cases r1; cases r2
      obtain ⟨tx, rfl⟩ := rx
      obtain ⟨tk, rfl⟩ := ry
      rename_i z k
      split at e
      · rename_i c hc
        obtain ⟨h1, h2⟩ := chk_ok e; cases h2
        simp only [Bool.and_eq_true, decide_eq_true_eq] at h1
        have ez : z = ⟨#[c]⟩ := by
          cases z with
          | mk a => congr 1; exact Array.toList_inj.mp (by simpa using hc)
        subst ez
        refine PySem.P.mul_str (by simp; omega) (fun _ _ => ?_) (fun _ _ => ?_) ?_
        · have : (2 ^ 63 - 1 : Int) / k ≥ 1 := Int.le_ediv_of_mul_le (by omega) (by omega)
          show ¬ (1 : Int) > _
          omega
        · show decide ((1 : Nat) * k.toNat > sizeLine) = false
          rw [decide_eq_false_iff_not, sizeLine_eq]; omega
        · rw [if_neg (by omega), if_neg (by simp [PySem.Str.length]; omega)]
          have ef : (List.foldl (fun x1 x2 => x1 ++ x2) #[] (List.replicate k.toNat (#[c] : Array Nat))) = (List.replicate k.toNat c).toArray := by
            have f0 : ∀ (m : Nat) (a : Array Nat), List.foldl (fun x1 x2 => x1 ++ x2) a (List.replicate m (#[c] : Array Nat)) = a ++ (List.replicate m c).toArray := fun m => by
              induction m with
              | zero => intro a; simp
              | succ m ih => intro a; rw [List.replicate_succ, List.foldl_cons, ih]; apply Array.toList_inj.mp; simp [List.replicate_succ]
            rw [f0]; simp
          rw [ef]
          exact ⟨by show (List.replicate k.toNat c).toArray.size ≤ _; rw [List.size_toArray, List.length_replicate, sizeLine_eq]; omega, .str _, H, I.tok _, ⟨_, rfl⟩, q _ H (Ext.refl H) (.str _)⟩
      · cases e
    · obtain ⟨h1, h2⟩ := chk_ok e; cases h2
      simp only [Bool.and_eq_true, decide_eq_true_eq] at h1
      rw [LIM_eq] at h1
      cases r2
      cases r1 with
      | lst a1 g1 q1 =>
        refine op_rep pins s σ H _ _ v u Q I rx ry ⟨_, _, _, rfl, rfl, a1, by omega, by omega, by rw [q1.length]; exact h1.2, fun p hp => ?_⟩
        exact fin_lst fr hp (q1.rep _) q
  | mod =>
    cases dx <;> cases dy <;> simp only [binop] at e <;> try (cases e; done)
    obtain ⟨h1, h2⟩ := chk_ok e; cases h2
    cases r1; cases r2
    exact op_mod pins s σ H _ _ v u Q I rx ry ⟨_, _, rfl, rfl, by simpa using h1, q _ H (Ext.refl H) (.int _)⟩
  | fdv =>
    cases dx <;> cases dy <;> simp only [binop] at e <;> try (cases e; done)
    obtain ⟨h1, h2⟩ := chk_ok e; cases h2
    cases r1; cases r2
    exact op_fdiv pins s σ H _ _ v u Q I rx ry ⟨_, _, rfl, rfl, by simpa [CDiv] using h1, q _ H (Ext.refl H) (.int _)⟩

def cop : CO → CmpOp
  | .eq => .Eq | .ne => .NotEq | .lt => .Lt | .le => .LtE | .gt => .Gt | .ge => .GtE | .is => .Is | .nis => .IsNot | .inn => .In | .nin => .NotIn
theorem decide_non {T : Wd} {G : Addr → Prop} {H : Hp} {x : V} {d : D} (r : Rep T G H x d) : decide (x = .non) = isNon d := by
  cases r <;> simp [isNon]
theorem toPys_map (ds : List D) : toPys ds = ds.map toPy := by
  induction ds with
  | nil => rfl
  | cons d ds ih => rw [toPys, ih]; rfl
theorem any_eqv (ds : List D) (y : D) : ((toPys ds).any fun z => PyData.eqv z (toPy y)) = ds.any fun z => eqv z y := by
  rw [toPys_map, List.any_map]; rfl
theorem ltI_ok {f : Int → Int → Bool} {a b d : D} (h : ltI f a b = .ok d) : ∃ i j, a = .int i ∧ b = .int j ∧ d = .bl (f i j) := by
  unfold ltI at h
  split at h
  · cases h; exact ⟨_, _, rfl, rfl, rfl⟩
  · cases h
theorem op_in_tupD (hu : X.A.units + 65 < cLine) (neg : Bool) {pins : List (Addr × Obj)} {s : Shared} {σ : St} {H : Hp} {x y : V} {v u : Value} {Q : VK} {d : PyData} {ds : List PyData} (I : Inv X pins σ H s) (rx : RelV x v) (ry : RelV y u) (hd : Dp X.K H x d) (he : Dp X.K H y (.tuple ds))
    (sd : SeqAt.shaped d = true) (se : SeqAt.shaped (.tuple ds) = true) (q : Q (.bl (if neg then !(ds.any fun z => PyData.eqv z d) else (ds.any fun z => PyData.eqv z d))) H) :
    wpAny (model X.prog X.w) X.A (compareOp (if neg then .NotIn else .In) v u) (EP X pins σ Q) X.xe s := by
  obtain ⟨as, r1⟩ := Dp.reads I d x v hd rx
  obtain ⟨bs, r2⟩ := Dp.reads I (.tuple ds) y u he ry
  have hr : X.A.units + 1 + min (PyData.depthAll ds) d.depth < cLine := by
    have h1 := SeqAt.depth_of_shaped sd
    have h2 : min (PyData.depthAll ds) d.depth ≤ d.depth := Nat.min_le_right _ _
    omega
  cases neg with
  | true => exact SeqAt.notIn_tuple_reads r2 r1 (by simpa [PyData.canLay0] using SeqAt.canLay_of_shaped se) (SeqAt.canLay_of_shaped sd) hr ⟨.bl _, H, I, rfl, q⟩
  | false => exact SeqAt.in_tuple_reads r2 r1 (by simpa [PyData.canLay0] using SeqAt.canLay_of_shaped se) (SeqAt.canLay_of_shaped sd) hr ⟨.bl _, H, I, rfl, q⟩
end
end Ev

/-! Ev4: dicts whose keys are tuples; comparisons. -/
namespace Ev
open PySem PySem.Spec L2
open PyProof.Rows hiding St

/-! ### keys -/
mutual
theorem eqv_key : ∀ (n m : Nat) (a b : D), keyd n a = true → keyd m b = true → eqv a b = (nk a).beq (nk b)
  | n, m, .non, b, _, hb => by cases b <;> simp [eqv, toPy, PyData.eqv, nk, NestedKey.beq] <;> cases m <;> simp [keyd] at hb
  | n, m, .int i, b, _, hb => by cases b <;> simp [eqv, toPy, PyData.eqv, nk, NestedKey.beq] <;> first | (cases m <;> simp [keyd] at hb; done) | exact Bool.beq_eq_decide_eq _ _
  | n, m, .str i, b, _, hb => by cases b <;> simp [eqv, toPy, PyData.eqv, nk, NestedKey.beq] <;> first | (cases m <;> simp [keyd] at hb; done) | exact Bool.beq_eq_decide_eq _ _
  | 0, m, .tup ds, b, ha, _ => by simp [keyd] at ha
  | n + 1, m, .tup ds, b, ha, hb => by
    have ha : keyds n ds = true := by simpa [keyd] using ha
    cases b with
    | tup es =>
      cases m with
      | zero => simp [keyd] at hb
      | succ m =>
        have hb : keyds m es = true := by simpa [keyd] using hb
        simpa [eqv, toPy, PyData.eqv, nk, NestedKey.beq] using eqv_keys n m ds es ha hb
    | non => simp [eqv, toPy, PyData.eqv, nk, NestedKey.beq]
    | int _ => simp [eqv, toPy, PyData.eqv, nk, NestedKey.beq]
    | str _ => simp [eqv, toPy, PyData.eqv, nk, NestedKey.beq]
    | bl _ => cases m <;> simp [keyd] at hb
    | lst _ => cases m <;> simp [keyd] at hb
    | scr _ => cases m <;> simp [keyd] at hb
    | dic _ => cases m <;> simp [keyd] at hb
    | tab _ => cases m <;> simp [keyd] at hb
  | n, m, .bl _, b, ha, _ => by cases n <;> simp [keyd] at ha
  | n, m, .lst _, b, ha, _ => by cases n <;> simp [keyd] at ha
  | n, m, .scr _, b, ha, _ => by cases n <;> simp [keyd] at ha
  | n, m, .dic _, b, ha, _ => by cases n <;> simp [keyd] at ha
  | n, m, .tab _, b, ha, _ => by cases n <;> simp [keyd] at ha
theorem eqv_keys : ∀ (n m : Nat) (a b : List D), keyds n a = true → keyds m b = true → PyData.eqvAll (toPys a) (toPys b) = NestedKey.beqAll (nks a) (nks b)
  | n, m, [], [], _, _ => by simp [toPys, PyData.eqvAll, nks, NestedKey.beqAll]
  | n, m, [], _ :: _, _, _ => by simp [toPys, PyData.eqvAll, nks, NestedKey.beqAll]
  | n, m, _ :: _, [], _, _ => by simp [toPys, PyData.eqvAll, nks, NestedKey.beqAll]
  | n, m, a :: as, b :: bs, ha, hb => by
    simp only [keyds, Bool.and_eq_true] at ha hb
    have h1 := eqv_key n m a b ha.1 hb.1
    have h2 := eqv_keys n m as bs ha.2 hb.2
    simp only [toPys, PyData.eqvAll, nks, NestedKey.beqAll]
    rw [← h2, ← h1]; rfl
end
theorem keyT_d {d : D} (h : keyT d = true) : keyd 6 d = true := by
  cases d <;> simp [keyT] at h ⊢
  simpa [keyd] using h
theorem eqv_keyT {a b : D} (ha : keyT a = true) (hb : keyT b = true) : eqv a b = decide (nk a = nk b) := by
  rw [NestedKey.decide_eq]; exact eqv_key 6 6 a b (keyT_d ha) (keyT_d hb)
section
variable {X : Cx} {pins : List (Addr × Obj)} {σ : St} {H : Hp} {s : Shared} {T : Wd} {G : Addr → Prop}
mutual
theorem nest_of (I : Inv X pins σ H s) : ∀ (n : Nat) (d : D) (v : V) (u : Value), Rep T G H v d → RelV v u → keyd n d = true → NestedIs s.heap (nk d) u ∧ (nk d).depth ≤ n
  | n, .non, _, _, .non, r, _ => by cases r; exact ⟨.none, Nat.zero_le _⟩
  | n, .int i, _, _, .int _, r, _ => by obtain ⟨t, rfl⟩ := r; exact ⟨.int _ _, Nat.zero_le _⟩
  | n, .str i, _, _, .str _, r, _ => by obtain ⟨t, rfl⟩ := r; exact ⟨.text _ _, Nat.zero_le _⟩
  | 0, .tup ds, _, _, _, _, h => by simp [keyd] at h
  | n + 1, .tup ds, _, _, .tup ha g rs, r, h => by
    cases r
    obtain ⟨its, rv, ⟨o, ho, hc, k, hd⟩, _⟩ := I.tuple ha.sq
    obtain ⟨h1, h2⟩ := nests_of I n ds _ its rs rv (by simpa [keyd] using h)
    exact ⟨by rw [nk]; exact .tup ho hc hd (by simpa using h1), by simp only [nk, NestedKey.depth]; omega⟩
  | n, .bl _, _, _, _, _, h => by cases n <;> simp [keyd] at h
  | n, .lst _, _, _, _, _, h => by cases n <;> simp [keyd] at h
  | n, .scr _, _, _, _, _, h => by cases n <;> simp [keyd] at h
  | n, .dic _, _, _, _, _, h => by cases n <;> simp [keyd] at h
  | n, .tab _, _, _, _, _, h => by cases n <;> simp [keyd] at h
theorem nests_of (I : Inv X pins σ H s) : ∀ (n : Nat) (ds : List D) (vs : List V) (us : List Value), Reps T G H vs ds → Vals vs us → keyds n ds = true → NestedAll s.heap (nks ds) us ∧ NestedKey.depthAll (nks ds) ≤ n
  | n, [], _, _, .nil, r, _ => by cases r; exact ⟨.nil, Nat.zero_le _⟩
  | n, d :: ds, _, _, .cons h1 h2, r, h => by
    simp only [keyds, Bool.and_eq_true] at h
    cases r with
    | cons r1 r2 =>
      obtain ⟨a1, a2⟩ := nest_of I n d _ _ h1 r1 h.1
      obtain ⟨b1, b2⟩ := nests_of I n ds _ _ h2 r2 h.2
      exact ⟨by rw [nks]; exact .cons a1 b1, by simp only [nks, NestedKey.depthAll]; omega⟩
end
theorem key_is (I : Inv X pins σ H s) {a : Addr} {d : D} (r : Rep T G H (.ref a) d) (k : keyT d = true) : (nestedKind X.prog X.w).is s.heap (nk d) a := by
  obtain ⟨h1, h2⟩ := nest_of I 6 d _ _ r (show RelV (.ref a) (.ref a) from rfl) (keyT_d k)
  exact ⟨h1, by omega⟩
theorem key_ref {v : V} {d : D} (r : Rep T G H v d) (k : keyT d = true) : ∃ a, v = .ref a := by
  cases r <;> simp [keyT] at k
  exact ⟨_, rfl⟩
/-- the dict as the library tells it -/
abbrev YRel (xs : List (NestedKey × Addr × V)) (ys : List (NestedKey × Addr × Value)) : Prop := Paired (fun p q => p.1 = q.1 ∧ p.2.1 = q.2.1 ∧ RelV p.2.2 q.2.2) xs ys
theorem repk_is (I : Inv X pins σ H s) : ∀ {xs : List (NestedKey × Addr × V)} {kvs : List (D × D)} {ys : List (NestedKey × Addr × Value)}, Repk T G H xs kvs → YRel xs ys → ∀ y ∈ ys, (nestedKind X.prog X.w).is s.heap y.1 y.2.1
  | _, _, _, .nil, .nil, y, hy => by simp at hy
  | _, _, _, .cons h k h2 r, .cons e es, y, hy => by
    rcases List.mem_cons.mp hy with rfl | hy
    · rw [← e.1, ← e.2.1]; exact key_is I h k
    · exact repk_is I r es y hy
theorem dic_of (I : Inv X pins σ H s) {a : Addr} {xs : List (NestedKey × Addr × V)} {kvs : List (D × D)} (h : DicObj X.prog X.w H a xs) (r : Repk T G H xs kvs) :
    (a == sysModules) = false ∧ ∃ ys, YRel xs ys ∧ s.heap.DictOfH (nestedKind X.prog X.w) a ys := by
  obtain ⟨n, _, o, es, ep, e, ex, ed, ys, yr, ee, nd⟩ := h
  obtain ⟨φ, _⟩ := I.hok a _ e
  exact ⟨n, ys, yr, o, es, ep, φ, ex, ed, ee, repk_is I r yr, nd⟩
/-- a store told, as the abstract heap has it -/
theorem obj_of {P : Program} {w : World} {H : Hp} {h : Heap} {a : Addr} {xs : List (NestedKey × Addr × V)} {ys : List (NestedKey × Addr × Value)} (hn : (a == sysModules) = false) (hz : xs.length ≤ sizeLine) (yr : YRel xs ys) (m : h.DictOfH (nestedKind P w) a ys) :
    ∃ o : HO, (∀ H : Hp, ObjOk P w H h a o) ∧ ∀ H : Hp, H a = some o → DicObj P w H a xs := by
  obtain ⟨o, es, ep, e, ex, ed, ee, _, nd⟩ := m
  exact ⟨.ext fun h => h.get? a = some o, fun H => ⟨e, ⟨o, e⟩, fun h1 h2 q k => k o q⟩, fun H q => ⟨hn, hz, o, es, ep, q, ex, ed, ys, yr, ee, nd⟩⟩

theorem look_at : ∀ {xs : List (NestedKey × Addr × V)} {kvs : List (D × D)} {ys : List (NestedKey × Addr × Value)} {k : D}, Repk T G H xs kvs → YRel xs ys → keyT k = true →
    (look kvs k = none ∧ atKey ys (nk k) = none) ∨ ∃ d v u b, look kvs k = some d ∧ atKey ys (nk k) = some (b, u) ∧ RelV v u ∧ Rep T G H v d
  | _, _, _, _, .nil, .nil, _ => .inl ⟨rfl, rfl⟩
  | _, _, _, k, .cons (k := k') (d := d) h hk h2 r, .cons (b := y) e es, ht => by
    have ee := eqv_keyT hk ht
    by_cases q : nk k' = nk k
    · refine .inr ⟨d, _, y.2.2, y.2.1, ?_, ?_, e.2.2, h2⟩
      · simp [look, List.find?_cons, ee, q]
      · have : y.1 = nk k := by rw [← e.1]; exact q
        simp [atKey, List.find?_cons, this]
    · have hq : ¬ y.1 = nk k := by rw [← e.1]; exact q
      rcases look_at r es ht with ⟨h1, h3⟩ | ⟨d', v, u, b, h1, h3, h4, h5⟩
      · refine .inl ⟨?_, ?_⟩
        · simpa [look, List.find?_cons, ee, q] using h1
        · simpa [atKey, List.find?_cons, hq] using h3
      · refine .inr ⟨d', v, u, b, ?_, ?_, h4, h5⟩
        · simpa [look, List.find?_cons, ee, q] using h1
        · simpa [atKey, List.find?_cons, hq] using h3
/-- the pairs behind a store -/
def storeV (xs : List (NestedKey × Addr × V)) (k : NestedKey) (a : Addr) (v : V) : List (NestedKey × Addr × V) :=
  if (xs.any fun x => decide (x.1 = k)) then xs.map (fun x => if x.1 = k then (x.1, x.2.1, v) else x) else xs ++ [(k, a, v)]
theorem yrel_any {k : NestedKey} : ∀ {xs : List (NestedKey × Addr × V)} {ys : List (NestedKey × Addr × Value)}, YRel xs ys → (xs.any fun x => decide (x.1 = k)) = (atKey ys k).isSome
  | _, _, .nil => rfl
  | _, _, .cons (a := x) (b := y) e es => by
    have ih := yrel_any (k := k) es
    rw [List.any_cons, ih, e.1]
    by_cases q : y.1 = k <;> simp [atKey, List.find?_cons, q]
theorem yrel_map {k : NestedKey} {v : V} {u : Value} (rv : RelV v u) : ∀ {xs : List (NestedKey × Addr × V)} {ys : List (NestedKey × Addr × Value)}, YRel xs ys → YRel (xs.map fun x => if x.1 = k then (x.1, x.2.1, v) else x) (ys.map (putAt k u))
  | _, _, .nil => .nil
  | _, _, .cons (a := x) (b := y) e es => by
    refine .cons ?_ (yrel_map rv es)
    unfold putAt
    dsimp only
    by_cases q : y.1 = k
    · rw [if_pos (e.1.trans q), if_pos q]; exact ⟨e.1, e.2.1, rv⟩
    · rw [if_neg (fun z => q (e.1.symm.trans z)), if_neg q]; exact e
theorem yrel_app {z : NestedKey × Addr × V} {y : NestedKey × Addr × Value} (h : z.1 = y.1 ∧ z.2.1 = y.2.1 ∧ RelV z.2.2 y.2.2) : ∀ {xs : List (NestedKey × Addr × V)} {ys : List (NestedKey × Addr × Value)}, YRel xs ys → YRel (xs ++ [z]) (ys ++ [y])
  | _, _, .nil => .cons h .nil
  | _, _, .cons e es => .cons e (yrel_app h es)
theorem yrel_store {k : NestedKey} {a : Addr} {v : V} {u : Value} (rv : RelV v u) {xs : List (NestedKey × Addr × V)} {ys : List (NestedKey × Addr × Value)} (h : YRel xs ys) : YRel (storeV xs k a v) (storedH ys k a u) := by
  unfold storeV storedH
  rw [yrel_any h]
  split
  · exact yrel_map rv h
  · exact yrel_app ⟨rfl, rfl, rv⟩ h
theorem repk_any {k : D} (ht : keyT k = true) : ∀ {xs : List (NestedKey × Addr × V)} {kvs : List (D × D)}, Repk T G H xs kvs → (xs.any fun x => decide (x.1 = nk k)) = kvs.any fun p => eqv p.1 k
  | _, _, .nil => rfl
  | _, _, .cons h hk h2 r => by
    rw [List.any_cons, List.any_cons, repk_any ht r, eqv_keyT hk ht]
theorem repk_map {k : D} {v : V} {d : D} (ht : keyT k = true) (rv : Rep T G H v d) : ∀ {xs : List (NestedKey × Addr × V)} {kvs : List (D × D)}, Repk T G H xs kvs →
    Repk T G H (xs.map fun x => if x.1 = nk k then (x.1, x.2.1, v) else x) (kvs.map fun p => if eqv p.1 k then (p.1, d) else p)
  | _, _, .nil => .nil
  | _, _, .cons (k := k') h hk h2 r => by
    rw [List.map_cons, List.map_cons]
    dsimp only
    rw [eqv_keyT hk ht]
    by_cases q : nk k' = nk k
    · rw [if_pos q, if_pos (decide_eq_true q)]
      exact .cons h hk rv (repk_map ht rv r)
    · rw [if_neg q, if_neg (by simp [q])]
      exact .cons h hk h2 (repk_map ht rv r)
theorem repk_app {k : D} {a : Addr} {v : V} {d : D} (ht : keyT k = true) (ra : Rep T G H (.ref a) k) (rv : Rep T G H v d) : ∀ {xs : List (NestedKey × Addr × V)} {kvs : List (D × D)}, Repk T G H xs kvs → Repk T G H (xs ++ [(nk k, a, v)]) (kvs ++ [(k, d)])
  | _, _, .nil => .cons ra ht rv .nil
  | _, _, .cons h hk h2 r => .cons h hk h2 (repk_app ht ra rv r)
theorem repk_store {k : D} {a : Addr} {v : V} {d : D} (ht : keyT k = true) (ra : Rep T G H (.ref a) k) (rv : Rep T G H v d) {xs : List (NestedKey × Addr × V)} {kvs : List (D × D)} (h : Repk T G H xs kvs) : Repk T G H (storeV xs (nk k) a v) (put kvs k d) := by
  unfold storeV put
  rw [repk_any ht h]
  split
  · exact repk_map ht rv h
  · exact repk_app ht ra rv h
theorem repk_len : ∀ {xs : List (NestedKey × Addr × V)} {kvs : List (D × D)}, Repk T G H xs kvs → xs.length = kvs.length
  | _, _, .nil => rfl
  | _, _, .cons _ _ _ r => congrArg (· + 1) (repk_len r)
end

section
variable {X : Cx}
theorem eqv_f {a b : D} (ha : keyF a = true) (hb : keyF b = true) : eqv a b = decide (fkey a = fkey b) := by
  cases a <;> cases hb0 : b <;> subst hb0 <;> first | (cases ha; done) | (cases hb; done) | skip
  all_goals (simp [eqv, toPy, PyData.eqv, fkey])
  all_goals (rw [Bool.eq_iff_iff]; simp)
theorem cst_rep {T : Wd} {G : Addr → Prop} {H : Hp} {d : D} {v : V} (h : cstV d = some v) : Rep T G H v d := by
  cases d <;> cases h
  · exact .non
  · exact .int _
  · exact .str _
theorem cst_inj {T : Wd} {G : Addr → Prop} {H : Hp} {d : D} {v : V} (h : cstV d = some v) (r : Rep T G H v d) : True := trivial
theorem tabL_find {P : Program} {w : World} {k : D} (hk : keyF k = true) : ∀ {es : List DictEntry} {kvs : List (D × D)}, TabL P w es kvs →
    (look kvs k = none ∧ (es.find? fun e => (noneKind P w).is (fkey k) e.key) = none) ∨ ∃ d v e, look kvs k = some d ∧ (es.find? fun e => (noneKind P w).is (fkey k) e.key) = some e ∧ cstV d = some v ∧ RelV v e.val
  | [], [], _ => .inl ⟨rfl, rfl⟩
  | e :: es, (k0, d) :: kvs, h => by
    obtain ⟨⟨h1, h2, h3, v, h4, h5⟩, ht⟩ := h
    have ed : (noneKind P w).is (fkey k) e.key = decide (fkey k = fkey k0) := KeyKind.is_eq_decide h2 _
    have el : eqv k0 k = decide (fkey k0 = fkey k) := eqv_f h1 hk
    by_cases c : fkey k = fkey k0
    · rw [decide_eq_true c] at ed
      rw [decide_eq_true c.symm] at el
      exact .inr ⟨d, v, e, by simp [look, el], by simp [ed], h4, h5⟩
    · rw [decide_eq_false c] at ed
      rw [decide_eq_false fun z => c z.symm] at el
      have e1 : look ((k0, d) :: kvs) k = look kvs k := by simp [look, el]
      have e2 : ((e :: es).find? fun e => (noneKind P w).is (fkey k) e.key) = es.find? fun e => (noneKind P w).is (fkey k) e.key := by simp [ed]
      rw [e1, e2]
      exact tabL_find hk ht
theorem tabL_keys {P : Program} {w : World} : ∀ {es : List DictEntry} {kvs : List (D × D)}, TabL P w es kvs → ∀ e ∈ es, ∃ k, (noneKind P w).is k e.key = true ∧ e.hash = (noneKind P w).hash k
  | [], [], _, _, h => by cases h
  | e :: es, (k0, d) :: kvs, h, e', he => by
    obtain ⟨⟨h1, h2, h3, _⟩, ht⟩ := h
    rcases List.mem_cons.mp he with rfl | he
    · exact ⟨_, h2, h3⟩
    · exact tabL_keys ht e' he
/-- the table's object as a map -/
theorem tab_map {P : Program} {w : World} {h : Heap} {a : Addr} {o : Obj} {kvs : List (D × D)} (ho : h.get? a = some o) (t : TabO P w o kvs) :
    ∃ f, h.MapOf (noneKind P w) a f ∧ ∀ k, keyF k = true → (look kvs k = none ∧ f (fkey k) = none) ∨ ∃ d v u, look kvs k = some d ∧ f (fkey k) = some u ∧ cstV d = some v ∧ RelV v u := by
  obtain ⟨ex, es, ep, dt, l⟩ := t
  refine ⟨fun k => findBy (noneKind P w).is es k, ⟨o, es, ep, ho, ex, dt, fun e he => tabL_keys l e (Array.mem_toList_iff.mpr he), fun k => rfl⟩, fun k hk => ?_⟩
  obtain ⟨l'⟩ := es
  show (look kvs k = none ∧ ((⟨l'⟩ : Array DictEntry).find? fun e => (noneKind P w).is (fkey k) e.key).map (·.val) = none) ∨ ∃ d v u, look kvs k = some d ∧ ((⟨l'⟩ : Array DictEntry).find? fun e => (noneKind P w).is (fkey k) e.key).map (·.val) = some u ∧ cstV d = some v ∧ RelV v u
  rw [show (⟨l'⟩ : Array DictEntry) = l'.toArray from rfl, List.find?_toArray]
  rcases tabL_find hk l with ⟨h1, h2⟩ | ⟨d, v, e, h1, h2, h3, h4⟩
  · exact .inl ⟨h1, by rw [h2]; rfl⟩
  · exact .inr ⟨d, v, e.val, h1, by rw [h2]; rfl, h3, h4⟩
/-- what stands for a flat key -/
theorem fkey_is {P : Program} {w : World} {T : Wd} {G : Addr → Prop} {H : Hp} {x : V} {v : Value} {d : D} (r : Rep T G H x d) (rx : RelV x v) (hk : keyF d = true) : (noneKind P w).is (fkey d) v = true := by
  cases r with
  | non => cases rx; rfl
  | int i => obtain ⟨t, rfl⟩ := rx; exact beq_self_eq_true i
  | str z => obtain ⟨t, rfl⟩ := rx; exact (mixKind_str P w z t)
  | _ => cases hk
theorem wd_of (T : Wd) (h : T = .of X) : T.K = X.K := by rw [h]; rfl
theorem op_cmpD (hu : X.A.units + 80 < cLine) (o : CO) : OpR X (compareOp (cop o)) (rD (.of X) (cmpop o)) := by
  refine opD fun pins s σ H x y v u Q G dx dy d I rx ry fr r1 r2 e q => ?_
  have ref : ∀ {d'}, d = .bl d' → Q (.bl d') H := fun z => by subst z; exact q _ H (Ext.refl H) (.bl _)
  have ord : ∀ {f : Int → Int → Bool} {op : CmpOp}, ltI f dx dy = .ok d → OpR X (compareOp op) (rI0 fun i j => .bl (f i j)) → wpAny (model X.prog X.w) X.A (compareOp op v u) (EP X pins σ Q) X.xe s := by
    intro f op h ho
    obtain ⟨i, j, rfl, rfl, hd⟩ := ltI_ok h
    cases r1; cases r2
    exact ho pins s σ H _ _ v u Q I rx ry ⟨_, _, rfl, rfl, ref hd⟩
  have mem : ∀ {k : Bool} {neg : Bool}, inOne dx dy = .ok k → d = .bl (if neg then !k else k) → wpAny (model X.prog X.w) X.A (compareOp (if neg then .NotIn else .In) v u) (EP X pins σ Q) X.xe s := by
    intro k neg h hd
    cases dy with
    | tup ds =>
      obtain ⟨h1, h2⟩ := chk_ok h; cases h2
      rw [Bool.and_eq_true] at h1
      refine op_in_tupD (by omega) neg I rx ry (Rep.dp r1 h1.1) (by have := Rep.dp r2 h1.2; rw [toPy] at this; exact this) (shaped_of h1.1) (by have := shaped_of h1.2; rw [toPy] at this; exact this) ?_
      rw [any_eqv]; exact ref hd
    | lst ds =>
      obtain ⟨h1, h2⟩ := chk_ok h; cases h2
      rw [Bool.and_eq_true] at h1
      have a2 : Dp X.K H y (.list (toPys ds)) := by have := Rep.dp r2 h1.2; rw [toPy] at this; exact this
      have a3 : SeqAt.shaped (.list (toPys ds)) = true := by have := shaped_of h1.2; rw [toPy] at this; exact this
      cases neg with
      | true => exact op_notInD (by omega) pins s σ H x y v u Q I rx ry ⟨_, _, Rep.dp r1 h1.1, a2, shaped_of h1.1, a3, by rw [any_eqv]; exact ref hd⟩
      | false => exact op_inD (by omega) pins s σ H x y v u Q I rx ry ⟨_, _, Rep.dp r1 h1.1, a2, shaped_of h1.1, a3, by rw [any_eqv]; exact ref hd⟩
    | dic kvs =>
      obtain ⟨h1, h2⟩ := chk_ok h; cases h2
      obtain ⟨a, rfl⟩ := key_ref r1 h1
      cases rx
      cases r2 with
      | dic ho g rk =>
        cases ry
        obtain ⟨hn, ys, yr, m⟩ := dic_of I ho rk
        have e1 : (look kvs dx).isSome = (atKey ys (nk dx)).isSome := by
          rcases look_at rk yr h1 with ⟨z1, z2⟩ | ⟨_, _, _, _, z1, z2, _⟩ <;> rw [z1, z2] <;> rfl
        rw [e1] at hd
        cases neg with
        | true => exact wpAny_notIn_heap (show X.A.units + 1 + 8 < cLine by omega) (key_is I r1 h1) hn m ⟨.bl _, H, I.tok _, rfl, ref hd⟩
        | false => exact wpAny_in_heap (show X.A.units + 1 + 8 < cLine by omega) (key_is I r1 h1) hn m ⟨.bl _, H, I.tok _, rfl, ref hd⟩
    | tab kvs =>
      obtain ⟨h1, h2⟩ := chk_ok h; cases h2
      cases r2 with
      | tab ht =>
        cases ry
        obtain ⟨low, o, hl, to⟩ := ht
        obtain ⟨f, hm, hf⟩ := tab_map (I.kIn _ _ hl) to
        have ki := fkey_is (P := X.prog) (w := X.w) r1 rx h1
        have e1 : (look kvs dx).isSome = (f (fkey dx)).isSome := by
          rcases hf dx h1 with ⟨z1, z2⟩ | ⟨_, _, _, z1, z2, _⟩ <;> rw [z1, z2] <;> rfl
        rw [e1] at hd
        cases neg with
        | true => exact wpAny_notIn_of ki low hm ⟨.bl _, H, I.tok _, rfl, ref hd⟩
        | false => exact wpAny_in_of ki low hm ⟨.bl _, H, I.tok _, rfl, ref hd⟩
    | str z =>
      cases r2
      cases dx with
      | str c =>
        cases r1
        simp only [inOne] at h
        split at h
        · rename_i k hk
          obtain ⟨h1, h2⟩ := chk_ok h; cases h2
          have ec : c = ⟨#[k]⟩ := by
            obtain ⟨⟨l⟩⟩ := c
            simp at hk; rw [hk]
          subst ec
          cases neg with
          | true => exact op_notIn_sign pins s σ H _ _ v u Q I rx ry ⟨_, _, rfl, rfl, ref hd⟩
          | false => exact op_in_sign pins s σ H _ _ v u Q I rx ry ⟨_, _, rfl, rfl, ref hd⟩
        · cases h
      | _ => cases h
    | _ => cases h
  cases o with
  | eq =>
    obtain ⟨h1, h2⟩ := chk_ok e; cases h2
    rw [Bool.and_eq_true] at h1
    exact op_eqD (by omega) pins s σ H x y v u Q I rx ry ⟨_, _, Rep.dp r1 h1.1, Rep.dp r2 h1.2, shaped_of h1.1, shaped_of h1.2, ref rfl⟩
  | ne =>
    obtain ⟨h1, h2⟩ := chk_ok e; cases h2
    rw [Bool.and_eq_true] at h1
    exact op_neD (by omega) pins s σ H x y v u Q I rx ry ⟨_, _, Rep.dp r1 h1.1, Rep.dp r2 h1.2, shaped_of h1.1, shaped_of h1.2, ref rfl⟩
  | lt =>
    simp only [cmpop] at e
    unfold ltD at e
    split at e
    · cases e; cases r1; cases r2
      exact op_lt pins s σ H _ _ v u Q I rx ry ⟨_, _, rfl, rfl, ref rfl⟩
    · split at e
      · rename_i ns ms e1 e2
        cases e
        have z1 := ints?_map e1
        have z2 := ints?_map e2
        cases r1 with
        | tup a1 g1 q1 =>
          cases r2 with
          | tup a2 g2 q2 =>
            rw [z1] at q1; rw [z2] at q2
            have w1 := q1.of_ints; have w2 := q2.of_ints
            subst w1; subst w2
            refine op_ltT (by omega) pins s σ H _ _ v u Q I rx ry ⟨_, _, ns, ms, rfl, rfl, a1.sq, a2.sq, ?_⟩
            have el : ∀ ns ms : List Int, HT.lexLt ns ms = decide (ns < ms) := by
              intro ns
              induction ns with
              | nil => intro ms; cases ms <;> simp [HT.lexLt]
              | cons n ns ih =>
                intro ms
                cases ms with
                | nil => simp [HT.lexLt]
                | cons m ms =>
                  rw [HT.lexLt_cons, ih]
                  by_cases q : n = m
                  · simp [q, List.cons_lt_cons_iff]
                  · simp [q, List.cons_lt_cons_iff]
            rw [el]; exact ref rfl
      · cases e
    · cases e
  | le => exact ord e op_le
  | gt => exact ord e op_gt
  | ge => exact ord e op_ge
  | is =>
    simp only [cmpop] at e
    unfold isOne at e
    split at e
    · cases r2; cases e
      refine op_isN pins s σ H _ _ v u Q I rx ry ⟨rfl, ?_⟩
      rw [decide_non r1]; exact ref rfl
    · cases r1; cases r2; cases e
      exact op_isBl pins s σ H _ _ v u Q I rx ry ⟨_, _, rfl, rfl, ref rfl⟩
    · cases e
  | nis =>
    simp only [cmpop] at e
    unfold isOne at e
    split at e
    · cases r2; cases e
      refine op_notN pins s σ H _ _ v u Q I rx ry ⟨rfl, ?_⟩
      rw [decide_non r1]; exact ref rfl
    · cases r1; cases r2; cases e
      exact op_notBl pins s σ H _ _ v u Q I rx ry ⟨_, _, rfl, rfl, ref rfl⟩
    · cases e
  | inn =>
    simp only [cmpop] at e
    cases z : inOne dx dy with
    | ok k => rw [z] at e; cases e; exact mem (neg := false) z rfl
    | exc c => rw [z] at e; cases e
    | bad => rw [z] at e; cases e
  | nin =>
    simp only [cmpop] at e
    cases z : inOne dx dy with
    | ok k => rw [z] at e; cases e; exact mem (neg := true) z rfl
    | exc c => rw [z] at e; cases e
    | bad => rw [z] at e; cases e
end
end Ev

/-! Ev5: sorted. -/
namespace Ev
open PySem PySem.Spec L2
open PyProof.Rows hiding St

theorem dataLe_tups : PySem.W.dataLe false (fun ns : List Int => PyData.tuple (ns.map .int)) = fun p q => decide (p ≤ q) := by
  funext p q
  rw [PySem.W.dataLe_eq]
  show (!PySem.W.dataLt (.tuple (q.map .int)) (.tuple (p.map .int))) = _
  rw [PySem.W.dataLt_tuple]
  show (!PySem.W.rowLt (q.map .int) (p.map .int)) = _
  rw [PySem.W.dataLt_ints]
  by_cases h : q < p
  · have h' : ¬ p ≤ q := fun r => List.not_lt.mpr r h
    simp [h, h']
  · have h' : p ≤ q := List.not_lt.mp h
    simp [h, h']
open PySem.W (EachIs AllAlike Sortable dataLe sortingHeap)
section
variable {X : Cx} {pins : List (Addr × Obj)} {σ : St} {H : Hp} {s : Shared}
/-- sorted(arg), the items as collect gives them -/
theorem sorted_gen {β : Type} {R : Value → β → Prop} {enc : β → PyData} {bs : List β} {arg : Value} {Q : Value → Shared → Prop} {E : Value → Shared → Prop} {A : Around} {prog : Program} {w : World}
    (hcol : ∀ (R' : List Value → Shared → Prop), (∀ h' tk vs, (∀ b o, s.heap.get? b = some o → h'.get? b = some o) → EachIs (fun v b => R v b ∧ ∃ as, Reads s.heap v (enc b) as) vs bs → R' vs { s with heap := h', toks := tk }) → wpAny (model prog w) A.in1 (collect arg) R' E s)
    (hal : AllAlike (bs.map enc)) (hk : Sortable (bs.map enc)) (hL : bs.length ≤ sizeLine) (hu : ∀ b, b ∈ bs → A.units + 2 + (enc b).depth < cLine)
    (h : ∀ (h1 h' : Heap) (tk : Nat) (D : Addr) (out : List Value) (n : Nat), (∀ b o, s.heap.get? b = some o → h1.get? b = some o) → (∀ b o, h1.get? b = some o → h'.get? b = some o) → h1.objs.size ≤ D → h'.get? D = some { cls := .type "list", data := .seq out.toArray n } →
      out.length = bs.length → EachIs R out (bs.mergeSort (dataLe false enc)) → Q (.ref D) { s with heap := h', toks := tk }) :
    wpAny (model prog w) A (call (.builtin "sorted") [arg]) Q E s := by
  refine Calls.call_function_entry kind_sorted plain_sorted entry_sorted (args_sorted1 _) ?_
  unfold Builtin.«sorted»
  refine wpAny_bind (m := checkCount "sorted" 1 1 _) (wpAny_pure ?_)
  refine wpAny_bind (hcol _ fun h1 tk vs kk eb => ?_)
  have hlen : vs.length = bs.length := eb.length
  refine wpAny_bind (wpAny_newList ?_ (by rw [hlen]; exact hL))
  have ho : (h1.push (seqObj "list" vs.toArray 0)).get? h1.objs.size = some (seqObj "list" vs.toArray 0) := Heap.get?_push_size _ rfl
  have er : EachIs (fun v b => ∃ as, Reads (sortingHeap (h1.push (seqObj "list" vs.toArray 0)) h1.objs.size vs) v (enc b) as) vs bs := eb.mono fun v b ⟨_, as, r⟩ =>
    ⟨as, PyProof.Rows.Reads.keeps (fun b o e => PySem.W.sortingHeap_old (Nat.ne_of_lt (Heap.lt_size (kk b o e))) (Heap.get?_push_of_some _ (kk b o e))) r⟩
  have e1 : EachIs R vs bs := eb.mono fun _ _ h => h.1
  show wpAny _ _ _ _ _ { s with heap := h1.push (seqObj "list" vs.toArray 0), toks := tk }
  refine wpAny_bind (wpAny_holding ?_)
  refine wpAny_call_entry slot_list_sort ⟨_, ho, rfl⟩ entry_list_sort (PySem.W.list_sort_vals (κ := PySem.W.dataKind (sortingHeap (h1.push (seqObj "list" vs.toArray 0)) h1.objs.size vs) (bs.map enc)) ho
    (PySem.W.SortsAt.data (s := { s with heap := sortingHeap (h1.push (seqObj "list" vs.toArray 0)) h1.objs.size vs, toks := tk }) (PySem.W.each_map (R := fun v d => ∃ as, Reads (sortingHeap (h1.push (seqObj "list" vs.toArray 0)) h1.objs.size vs) v d as) enc er) hal hk (PySem.W.bound_map hu)) (by rw [hlen]; exact hL) ⟨.none, rfl, ?_⟩) (args_list_sort _)
  refine wpAny_pure ⟨_, rfl, ?_⟩
  obtain ⟨c, hc⟩ := sortedHeap_at (out := (PySem.W.sortVals (PySem.W.dataKind (sortingHeap (h1.push (seqObj "list" vs.toArray 0)) h1.objs.size vs) (bs.map enc)) false vs vs).toArray) ho
  refine h h1 _ tk h1.objs.size _ c kk (fun b o e => ?_) (Nat.le_refl _) hc (by rw [PySem.W.sortVals_length false rfl]; exact hlen) (PySem.W.sortVals_data false e1 er hal)
  have hb := Heap.lt_size e
  rw [sortedHeap_old (Nat.ne_of_lt hb) (by rw [size_push']; exact Nat.lt_succ_of_lt hb)]
  exact Heap.get?_push_of_some _ e
/-- a call by values that tells a value -/
def rC (T : Wd) (f : List D → R D) : List V → Hp → VK → Prop := fun xs H Q => ∃ G ds d, Fresh G H ∧ Reps T G H xs ds ∧ f ds = .ok d ∧ ∀ v H', Ext H H' → Rep T G H' v d → Q v H'
theorem tups?_map : ∀ {ds : List D} {ns : List (List Int)}, tups? ds = some ns → ds = ns.map intT ∧ ∀ n ∈ ns, n ≠ []
  | [], ns, h => by simp [tups?] at h; subst h; exact ⟨rfl, fun _ h => nomatch h⟩
  | .tup xs :: ds, ns, h => by
    simp only [tups?] at h
    split at h
    · rename_i x r rs e1 e2
      cases h
      obtain ⟨h1, h2⟩ := tups?_map e2
      refine ⟨by rw [h1, ints?_map e1]; rfl, fun n hn => ?_⟩
      rcases List.mem_cons.mp hn with rfl | hn
      · simp
      · exact h2 n hn
    · cases h
  | .non :: _, _, h => by simp [tups?] at h
  | .bl _ :: _, _, h => by simp [tups?] at h
  | .int _ :: _, _, h => by simp [tups?] at h
  | .str _ :: _, _, h => by simp [tups?] at h
  | .lst _ :: _, _, h => by simp [tups?] at h
  | .scr _ :: _, _, h => by simp [tups?] at h
  | .dic _ :: _, _, h => by simp [tups?] at h
  | .tab _ :: _, _, h => by simp [tups?] at h
theorem each_reps {β : Type} {T : Wd} {G : Addr → Prop} {f : β → D} : ∀ {out : List Value} {bs : List β}, EachIs (fun v b => ∃ x, RelV x v ∧ Rep T G H x (f b)) out bs → ∃ xs, Vals xs out ∧ Reps T G H xs (bs.map f)
  | _, _, .nil => ⟨[], .nil, .nil⟩
  | _, _, .cons ⟨x, h1, h2⟩ r => by
    obtain ⟨xs, h3, h4⟩ := each_reps r
    exact ⟨x :: xs, .cons h1 h3, .cons h2 h4⟩
theorem reps_each {β : Type} {T : Wd} {G : Addr → Prop} {f : β → D} {enc : β → PyData} (I : Inv X pins σ H s) (hT : T.K = X.K) (he : ∀ b, toPy (f b) = enc b) (hs : ∀ b, ∃ n, shap n (f b) = true) : ∀ {xs : List V} {vs : List Value} {bs : List β}, Vals xs vs → Reps T G H xs (bs.map f) →
    EachIs (fun v b => (∃ x, RelV x v ∧ Rep T G H x (f b)) ∧ ∃ as, Reads s.heap v (enc b) as) vs bs
  | _, _, [], .nil, _ => .nil
  | _, _, [], .cons _ _, r => by cases r
  | _, _, b :: bs, r, q => by
    cases r with
    | nil => cases q
    | cons r1 r2 =>
      cases q with
      | cons q1 q2 =>
        obtain ⟨n, hn⟩ := hs b
        refine .cons ⟨⟨_, r1, q1⟩, ?_⟩ (reps_each I hT he hs r2 q2)
        rw [← he]
        exact Dp.reads I _ _ _ (hT ▸ Rep.dp q1 hn) r1
theorem toPys_ints (ns : List Int) : toPys (ns.map D.int) = ns.map PyData.int := by rw [toPys_map, List.map_map]; rfl
theorem shaps_ints (n : Nat) : ∀ ns : List Int, shaps n (ns.map D.int) = true
  | [] => rfl
  | i :: ns => by
    show (shap n (.int i) && shaps n (ns.map D.int)) = true
    rw [shaps_ints n ns]
    cases n <;> rfl
theorem sort_fin (I : Inv X pins σ H s) {G : Addr → Prop} {arg : Value} {xs : List V} {ds : List D} {d : D} {Q : VK} (hu : X.A.units + 80 < cLine) (fr : Fresh G H) (hz : xs.length ≤ sizeLine)
    (hcol : ∀ (R' : List Value → Shared → Prop), (∀ h' tk vs, (∀ b o, s.heap.get? b = some o → h'.get? b = some o) → Vals xs vs → R' vs { s with heap := h', toks := tk }) → wpAny (model X.prog X.w) X.A.in1 (collect arg) R' X.xe s)
    (r : Reps (.of X) G H xs ds) (e : sortD ds = .ok d) (q : ∀ v H', Ext H H' → Rep (.of X) G H' v d → Q v H') :
    wpAny (model X.prog X.w) X.A (call (.builtin "sorted") [arg]) (EP X pins σ Q) X.xe s := by
  have fin : ∀ {β : Type} {f : β → D} {bs : List β} (h1 h' : Heap) (tk : Nat) (D' : Addr) (out : List Value) (n : Nat), (∀ b o, s.heap.get? b = some o → h1.get? b = some o) → (∀ b o, h1.get? b = some o → h'.get? b = some o) → h1.objs.size ≤ D' → h'.get? D' = some { cls := .type "list", data := .seq out.toArray n } →
      bs.length ≤ sizeLine → out.length = bs.length → EachIs (fun v b => ∃ x, RelV x v ∧ Rep (.of X) G H x (f b)) out bs → d = .lst (bs.map f) → EP X pins σ Q (.ref D') { s with heap := h', toks := tk } := by
    intro β f bs h1 h' tk D' out n k1 k2 hD hg hb hl he hd
    obtain ⟨ys, v1, v2⟩ := each_reps he
    have I1 : Inv X pins σ H { s with heap := h1, toks := tk } := I.kept k1
    have hn : H D' = none := I1.hok.fresh hD
    have hly : ys.length ≤ sizeLine := by rw [v2.length, List.length_map]; exact hb
    have I2 := I1.laid (a := D') (o := .lst ys) (h' := h') (t' := tk) k2 hD ⟨hly, out, n, v1, hg⟩
    subst hd
    exact ⟨.ref D', _, I2, rfl, fin_lst fr hn v2 q⟩
  unfold sortD at e
  split at e
  · rename_i ns en
    cases e
    have e1 := ints?_map en
    subst e1
    have hlen : ns.length ≤ sizeLine := by have := r.length; rw [List.length_map] at this; omega
    refine sorted_gen (R := fun v (n : Int) => ∃ x, RelV x v ∧ Rep (.of X) G H x (.int n)) (enc := PyData.int) (bs := ns) (fun R' hR => hcol R' fun h' tk vs k rv => hR h' tk vs k ?_) ?_ ?_ hlen ?_ ?_
    · exact reps_each (f := D.int) I rfl (fun _ => rfl) (fun _ => ⟨0, rfl⟩) rv r
    · exact AllAlike.of fun _ _ => by simp [PySem.W.alike]
    · exact Sortable.others fun _ => ⟨by simp, fun _ => by simp⟩
    · intro b _; simp only [PyData.depth]; omega
    · intro h1 h' tk D' out n k1 k2 hD hg hl he
      rw [show dataLe false PyData.int = fun a b : Int => decide (a ≤ b) from PySem.W.dataLe_int fun n : Int => n, ← sortI_ms] at he
      refine fin (f := D.int) (bs := sortI ns) h1 h' tk D' out n k1 k2 hD hg ?_ ?_ he rfl
      · rw [sortI_ms, List.length_mergeSort]; exact hlen
      · rw [sortI_ms, List.length_mergeSort]; exact hl
  · split at e
    · rename_i nss en
      cases e
      obtain ⟨e1, e2⟩ := tups?_map en
      subst e1
      have hlen : nss.length ≤ sizeLine := by have := r.length; rw [List.length_map] at this; omega
      refine sorted_gen (R := fun v (n : List Int) => ∃ x, RelV x v ∧ Rep (.of X) G H x (intT n)) (enc := fun n => .tuple (n.map PyData.int)) (bs := nss) (fun R' hR => hcol R' fun h' tk vs k rv => hR h' tk vs k ?_) ?_ ?_ hlen ?_ ?_
      · exact reps_each (f := intT) I rfl (fun b => by simp [intT, toPy, toPys_ints]) (fun b => ⟨1, by simp [intT, shap, shaps_ints]⟩) rv r
      · exact AllAlike.of fun a b => by simp only [PySem.W.alike]; exact PySem.W.alike_ints a b
      · refine .inl fun d hd => ?_
        obtain ⟨b, hb, rfl⟩ := List.mem_map.mp hd
        cases b with
        | nil => exact absurd rfl (e2 _ hb)
        | cons x r => exact ⟨.int x, r.map .int, rfl⟩
      · intro b _; simp only [PyData.depth, PySem.W.depth_ints]; omega
      · intro h1 h' tk D' out n k1 k2 hD hg hl he
        rw [dataLe_tups, ← sortT_ms] at he
        refine fin (f := intT) (bs := sortT nss) h1 h' tk D' out n k1 k2 hD hg ?_ ?_ he rfl
        · rw [sortT_ms, List.length_mergeSort]; exact hlen
        · rw [sortT_ms, List.length_mergeSort]; exact hl
    · cases e
theorem vals_keys {T : Wd} {G : Addr → Prop} {xs : List (NestedKey × Addr × V)} {ys : List (NestedKey × Addr × Value)} (h : YRel xs ys) : Vals (xs.map fun x => V.ref x.2.1) (ys.map fun y => Value.ref y.2.1) := by
  induction h with
  | nil => exact .nil
  | cons e _ ih => exact .cons (by dsimp only; rw [e.2.1]; rfl) ih
theorem reps_keys {T : Wd} {G : Addr → Prop} : ∀ {xs : List (NestedKey × Addr × V)} {kvs : List (D × D)}, Repk T G H xs kvs → Reps T G H (xs.map fun x => V.ref x.2.1) (kvs.map (·.1))
  | _, _, .nil => .nil
  | _, _, .cons h _ _ r => .cons h (reps_keys r)
/-- the keys of a dict, collected -/
theorem collect_dic (I : Inv X pins σ H s) (hcalm : X.A.handled = none) {a : Addr} {xs : List (NestedKey × Addr × V)} {kvs : List (D × D)} {G : Addr → Prop} (ho : DicObj X.prog X.w H a xs) (rk : Repk (.of X) G H xs kvs) {R' : List Value → Shared → Prop} {E : Value → Shared → Prop}
    (h : ∀ h' tk vs, (∀ b o, s.heap.get? b = some o → h'.get? b = some o) → Vals (xs.map fun x => V.ref x.2.1) vs → R' vs { s with heap := h', toks := tk }) : wpAny (model X.prog X.w) X.A.in1 (collect (.ref a)) R' E s := by
  obtain ⟨hn, ys, yr, m⟩ := dic_of I ho rk
  obtain ⟨es, ep, hr, hs, he⟩ := Heap.DictOfH.raw m
  have hz := ho.2.1
  have hl : ys.length = xs.length := (Paired.length yr).symm
  refine PySem.W.kdu_collect (A := X.A.in1) (PySem.KdlSrc.rawDict (es := es) (ep := ep) hn) hcalm hr (by rw [hs, hl]; exact hz) fun h' tk acc k hacc => ?_
  have ea : acc.toList = ys.map fun y => Value.ref y.2.1 := by
    refine List.ext_getElem? fun i => ?_
    by_cases hi : i < es.size
    · obtain ⟨y, hy, h1, h2, h3⟩ := he i hi
      have hia : i < acc.size := by rw [hacc.1]; exact hi
      obtain ⟨hi', ev⟩ := hacc.2 i acc[i] (by simp [hia])
      rw [List.getElem?_map, hy, Array.getElem?_toList, Array.getElem?_eq_getElem hia, ev]
      simp [h1]
    · rw [List.getElem?_eq_none (by rw [Array.length_toList, hacc.1]; omega), List.getElem?_eq_none (by rw [List.length_map, ← hs]; omega)]
  rw [ea]
  exact h h' tk _ k (vals_keys (T := .of X) (G := G) yr)
theorem call_srtD (hc : X.calm = true) (hu : X.A.units + 80 < cLine) : CallR X (.builtin "sorted") (rC (.of X) (blt .srt)) := by
  intro pins s σ H xs us Q I rv ⟨G, ds, d, fr, r, e, q⟩
  cases r with
  | nil => simp [blt] at e
  | @cons v d0 vs ds' r1 r2 =>
    cases r2 with
    | cons _ _ => cases d0 <;> simp [blt] at e
    | nil =>
      obtain ⟨u, rfl, ru⟩ := vals1 rv
      cases r1 with
      | non => simp [blt] at e
      | bl => simp [blt] at e
      | int => simp [blt] at e
      | str => simp [blt] at e
      | scr => simp [blt] at e
      | tab _ => simp [blt] at e
      | tup ha g rs =>
        cases ru
        obtain ⟨its, rv', ⟨o, h1, h2, n, h3⟩, hz⟩ := I.tuple ha.sq
        have hl := rv'.length
        exact sort_fin I hu fr hz (fun R' hR => wpAny_collect_seq (hsz := by rw [List.size_toArray]; omega) _ (.inr rfl) h1 h2 h3 fun h' k => hR h' s.toks _ k (by simpa using rv')) rs e q
      | lst ha g rs =>
        cases ru
        obtain ⟨hz, its, n, rv', hl, h1⟩ := I.lstM ha
        exact sort_fin I hu fr hz (fun R' hR => wpAny_collect_seq (hsz := by rw [List.size_toArray]; omega) _ (.inl rfl) h1 rfl rfl fun h' k => hR h' s.toks _ k (by simpa using rv')) rs e q
      | dic ho g rk =>
        cases ru
        exact sort_fin I hu fr (by rw [List.length_map]; exact ho.2.1) (fun R' hR => collect_dic I (I.ok.hd hc) ho rk hR) (reps_keys rk) e q
end
end Ev

/-! Ev6: truth, subscripts, slices, calls of what is built in. -/
namespace Ev
open PySem PySem.Spec L2
open PyProof.Rows hiding St

section
variable {X : Cx} {pins : List (Addr × Obj)} {σ : St} {H : Hp} {s : Shared} {G : Addr → Prop}
theorem truth_exc {d : D} {c : Nat} : truth d ≠ .exc c := by
  intro h
  cases d <;> simp only [truth] at h <;> first | cases h; done | exact absurd (chk_exc h) (by simp)
theorem scr_sq {T : Wd} {a : Addr} {ns : List Int} (h : (Rd H a (.lst (ns.map V.int)) ∧ G a) ∨ (∀ H', SqL T.K H' a (ns.map V.int))) : SqL T.K H a (ns.map V.int) := h.elim (fun h => .inl h.1) fun h => h H
theorem tru_of {T : Wd} {x : V} {d : D} {k : Bool} (r : Rep T G H x d) (e : truth d = .ok k) : TruV T.K x H k := by
  cases r with
  | non => cases e; exact rfl
  | bl b => cases e; exact rfl
  | int i => cases e; exact rfl
  | str z =>
    obtain ⟨h1, h2⟩ := chk_ok e; cases h2
    rw [LIM_eq, decide_eq_true_eq] at h1
    refine ⟨h1, ?_⟩
    cases q : z.length <;> simp [q]; all_goals omega
  | tup h g r =>
    cases e
    exact .inr (.inl ⟨_, h.sq, by cases r <;> rfl⟩)
  | lst h g r =>
    cases e
    exact .inl ⟨_, SqL.of h, by cases r <;> rfl⟩
  | @scr a ns h =>
    cases e
    exact .inl ⟨_, scr_sq h, by cases ns <;> rfl⟩
  | dic _ _ _ => cases e
  | tab _ => cases e

/-! ### x[i] -/
theorem atI_reps {T : Wd} {vs : List V} {ds : List D} {i : Int} {d : D} (r : Reps T G H vs ds) (e : atI ds i = some d) : ∃ v, L2.atI vs i = some v ∧ Rep T G H v d := by
  unfold atI at e
  cases q : ixN ds.length i with
  | none => rw [q] at e; cases e
  | some j =>
    rw [q] at e
    obtain ⟨v, h1, h2⟩ := r.get (i := j) e
    refine ⟨v, ?_, h2⟩
    unfold L2.atI
    rw [r.length]
    show (ixN ds.length i).bind _ = _
    rw [q]; exact h1
theorem orBad_ok {α : Type} {o : Option α} {a : α} (h : orBad o = .ok a) : o = some a := by
  cases o with
  | none => cases h
  | some b => cases h; rfl
theorem ix_dic (hu : X.A.units + 80 < cLine) : IxR X (fun x y H Q => ∃ G kvs k d, Rep (.of X) G H x (.dic kvs) ∧ Rep (.of X) G H y k ∧ keyT k = true ∧ look kvs k = some d ∧ ∀ v, Rep (.of X) G H v d → Q v H) := by
  intro value slice pins s σ H x y v u Q I rx ry ⟨G, kvs, k, d, r1, r2, hk, e, q⟩ hs
  obtain ⟨a, rfl⟩ := key_ref r2 hk
  cases ry
  cases r1 with
  | dic ho g rk =>
    cases rx
    obtain ⟨hn, ys, yr, m⟩ := dic_of I ho rk
    rcases look_at rk yr hk with ⟨z1, z2⟩ | ⟨d', v', u', b, z1, z2, z3, z4⟩
    · rw [e] at z1; cases z1
    · rw [e] at z1; cases z1
      exact subscriptTail_builtinR (x := u') m.typeIs PySem.F.slot_dict_getitem.lookup
        (wpAny_getItem_heap (Q := fun r s' => r = u' ∧ EP X pins σ Q r s') (show X.A.units + 1 + 8 < cLine by omega) (key_is I r2 hk) m z2 ⟨rfl, v', H, I.tok _, z3, q _ z4⟩) hs
/-- what a map tells of flat keys -/
def TabF (kvs : List (D × D)) (f : Option Key → Option Value) : Prop := ∀ k, keyF k = true → (look kvs k = none ∧ f (fkey k) = none) ∨ ∃ d v u, look kvs k = some d ∧ f (fkey k) = some u ∧ cstV d = some v ∧ RelV v u
/-- t[k], t a table -/
theorem ix_mapO {value slice : Expr} {pins : List (Addr × Obj)} {s : Shared} {σ : St} {H : Hp} {a : Addr} {f : Option Key → Option Value} {y : V} {u : Value} {Q : VK} {G : Addr → Prop} {kvs : List (D × D)} {k d : D} (I : Inv X pins σ H s) (hm : s.heap.MapOf (noneKind X.prog X.w) a f) (hf : TabF kvs f)
    (ry : RelV y u) (r2 : Rep (.of X) G H y k) (hk : keyF k = true) (e : look kvs k = some d) (q : ∀ v, cstV d = some v → Q v H) (hs : subscripted slice false (.ref a) u = operate [.ref a, u] (getItem (.ref a) u)) :
    wpAny (model X.prog X.w) X.A (subscriptTail value slice (.ref a) u) (EP X pins σ Q) X.xe s := by
  have ki := fkey_is (P := X.prog) (w := X.w) r2 ry hk
  rcases hf k hk with ⟨z1, z2⟩ | ⟨d', v', u', z1, z2, z3, z4⟩
  · rw [e] at z1; cases z1
  · rw [e] at z1; cases z1
    exact subscriptTail_builtinR (x := u') hm.typeIs PySem.F.slot_dict_getitem.lookup
      (wpAny_getItem_of (Q := fun r s' => r = u' ∧ EP X pins σ Q r s') ki hm z2 ⟨rfl, v', H, I.tok _, z4, q _ z3⟩) hs
theorem ix_tabO {value slice : Expr} {pins : List (Addr × Obj)} {s : Shared} {σ : St} {H : Hp} {a : Addr} {o : Obj} {y : V} {u : Value} {Q : VK} {G : Addr → Prop} {kvs : List (D × D)} {k d : D} (I : Inv X pins σ H s) (ho : s.heap.get? a = some o) (to : TabO X.prog X.w o kvs)
    (ry : RelV y u) (r2 : Rep (.of X) G H y k) (hk : keyF k = true) (e : look kvs k = some d) (q : ∀ v, cstV d = some v → Q v H) (hs : subscripted slice false (.ref a) u = operate [.ref a, u] (getItem (.ref a) u)) :
    wpAny (model X.prog X.w) X.A (subscriptTail value slice (.ref a) u) (EP X pins σ Q) X.xe s := by
  obtain ⟨f, hm, hf⟩ := tab_map ho to
  exact ix_mapO I hm hf ry r2 hk e q hs
theorem ix_subD (hu : X.A.units + 80 < cLine) : IxR X (rD (.of X) subD) := by
  intro value slice pins s σ H x y v u Q I rx ry ⟨G, dx, dy, d, fr, r1, r2, e, q⟩ hs
  have qq : ∀ v, Rep (.of X) G H v d → Q v H := fun v r => q v H (Ext.refl H) r
  cases dx with
  | tup ds =>
    cases dy <;> simp only [subD] at e <;> try (cases e; done)
    cases r2
    cases r1 with
    | tup ha g rs =>
      obtain ⟨z, h1, h2⟩ := atI_reps rs (orBad_ok e)
      exact ix_tup value slice pins s σ H _ _ v u Q I rx ry ⟨_, _, _, z, rfl, rfl, ha.sq, h1, qq z h2⟩ hs
  | lst ds =>
    cases dy <;> simp only [subD] at e <;> try (cases e; done)
    cases r2
    cases r1 with
    | lst ha g rs =>
      obtain ⟨z, h1, h2⟩ := atI_reps rs (orBad_ok e)
      exact ix_list value slice pins s σ H _ _ v u Q I rx ry ⟨_, _, _, z, rfl, rfl, SqL.of ha, h1, qq z h2⟩ hs
  | scr ns =>
    cases dy <;> simp only [subD] at e <;> try (cases e; done)
    rename_i i
    cases r2
    cases r1 with
    | scr hz =>
      have ha := scr_sq hz
      have e' := orBad_ok e
      rw [Option.map_eq_some_iff] at e'
      obtain ⟨n, h1, h2⟩ := e'
      subst h2
      have h3 : L2.atI (ns.map V.int) i = some (.int n) := by
        unfold atI at h1
        unfold L2.atI
        rw [List.length_map]
        show (ixN ns.length i).bind _ = _
        cases z : ixN ns.length i with
        | none => rw [z] at h1; cases h1
        | some j => rw [z] at h1; simp only [Option.bind_some] at h1 ⊢; rw [List.getElem?_map, h1]; rfl
      exact ix_list value slice pins s σ H _ _ v u Q I rx ry ⟨_, _, _, _, rfl, rfl, ha, h3, qq _ (.int n)⟩ hs
  | str z =>
    cases dy <;> simp only [subD] at e <;> try (cases e; done)
    cases r1; cases r2
    obtain ⟨h1, h2⟩ := chk_ok e
    rw [LIM_eq, decide_eq_true_eq] at h1
    have h2 := orBad_ok h2
    rw [Option.map_eq_some_iff] at h2
    obtain ⟨c, h3, h4⟩ := h2
    subst h4
    exact ix_str value slice pins s σ H _ _ v u Q I rx ry ⟨_, _, c, rfl, rfl, h1, h3, qq _ (.str _)⟩ hs
  | dic kvs =>
    simp only [subD] at e
    obtain ⟨h1, h2⟩ := chk_ok e
    exact ix_dic hu value slice pins s σ H _ _ v u Q I rx ry ⟨G, kvs, dy, d, r1, r2, h1, orBad_ok h2, qq⟩ hs
  | tab kvs =>
    simp only [subD] at e
    obtain ⟨h1, h2⟩ := chk_ok e
    cases r1 with
    | tab ht =>
      cases rx
      obtain ⟨low, o, hl, to⟩ := ht
      exact ix_tabO I (I.kIn _ _ hl) to ry r2 h1 (orBad_ok h2) (fun v z => qq v (cst_rep z)) hs
  | non => simp only [subD] at e; cases e
  | bl _ => simp only [subD] at e; cases e
  | int _ => simp only [subD] at e; cases e

/-! ### x[i:j] -/
theorem sIx_eq (n d : Nat) (o : Option Int) : sIx n d o = HT.sIx n d o := by
  cases o <;> rfl
theorem cut_reps {T : Wd} {vs : List V} {ds : List D} (lo hi : Option Int) (r : Reps T G H vs ds) : Reps T G H (cutV vs lo hi) (cut ds lo hi) := by
  unfold cutV cut
  rw [r.length]
  simp only [sIx_eq]
  exact (r.drop _).take _
theorem sl_slcD : SlR X (fun x lo hi H Q => ∃ G dx d, Fresh G H ∧ Rep (.of X) G H x dx ∧ slcD lo hi dx = .ok d ∧ ∀ v H', Ext H H' → Rep (.of X) G H' v d → Q v H') := by
  intro pins s σ H x v vl vu lo hi sl Q I rx hs pl pu ⟨G, dx, d, fr, r1, e, q⟩
  cases dx <;> simp only [slcD] at e <;> try (cases e; done)
  · obtain ⟨h1, h2⟩ := chk_ok e
    cases h2
    cases r1
    rw [LIM_eq, decide_eq_true_eq] at h1
    rename_i z
    refine sl_str pins s σ H _ v vl vu lo hi sl Q I rx hs pl pu ⟨z, rfl, h1, ?_⟩
    have e1 : cutS z lo hi = PySem.Str.mk (cut z.cps.toList lo hi).toArray := by
      unfold cutS cut
      have hl : z.cps.toList.length = z.length := by rw [Array.length_toList]; rfl
      simp only [hl, sIx_eq]
    rw [e1]
    exact q _ H (Ext.refl H) (.str _)
  · cases e
    cases r1 with
    | tup ha g rs =>
      refine sl_tupF pins s σ H _ v vl vu lo hi sl Q I rx hs pl pu ⟨_, _, rfl, ha.sq, fun w => ?_, fun w => fin_tup fr (cut_reps lo hi rs) q⟩
      refine q _ H (Ext.refl H) (.tup ha g ?_)
      unfold cut
      rw [sIx_eq, sIx_eq, ← rs.length, w.1, w.2, rs.length]
      simpa using rs
  · cases e
    cases r1 with
    | lst ha g rs =>
      exact sl_list pins s σ H _ v vl vu lo hi sl Q I rx hs pl pu ⟨_, _, rfl, SqL.of ha, fun p hp => fin_lst fr hp (cut_reps lo hi rs) q⟩
end
end Ev

/-! Ev7: calls of what is built in, by values. -/
namespace Ev
open PySem PySem.Spec L2
open PyProof.Rows hiding St

section
variable {X : Cx}
/-- one argument -/
theorem callD1 {f : Value} {b : BF} (h1 : ∀ {ds d}, blt b ds = .ok d → ∃ d0, ds = [d0])
    (h : ∀ (pins : List (Addr × Obj)) (s : Shared) (σ : St) (H : Hp) (x : V) (u : Value) (Q : VK) (G : Addr → Prop) (dx d : D), Inv X pins σ H s → RelV x u → Fresh G H → Rep (.of X) G H x dx → blt b [dx] = .ok d →
      (∀ v H', Ext H H' → Rep (.of X) G H' v d → Q v H') → (∀ v, Rep (.of X) G H v d → Q v H) → wpAny (model X.prog X.w) X.A (call f [u]) (EP X pins σ Q) X.xe s) : CallR X f (rC (.of X) (blt b)) := by
  intro pins s σ H xs us Q I rv ⟨G, ds, d, fr, r, e, q⟩
  obtain ⟨d0, rfl⟩ := h1 e
  cases r with
  | cons r1 r2 =>
    cases r2
    obtain ⟨u, rfl, ru⟩ := vals1 rv
    exact h pins s σ H _ u Q G d0 d I ru fr r1 e q fun v r => q v H (Ext.refl H) r
theorem blt1 {b : BF} (hb : b ≠ .mn2 ∧ b ≠ .mx2) {ds : List D} {d : D} (e : blt b ds = .ok d) : ∃ d0, ds = [d0] := by
  match ds, e with
  | [], e => cases b <;> simp [blt] at e
  | [d0], _ => exact ⟨d0, rfl⟩
  | a :: b' :: c, e => cases b <;> first | exact absurd rfl hb.1 | exact absurd rfl hb.2 | simp [blt] at e
theorem call_lenD : CallR X (.builtin "len") (rC (.of X) (blt .len)) := by
  refine callD1 (blt1 (by decide)) fun pins s σ H x u Q G dx d I ru fr r e q qq => ?_
  have rv : Vals [x] [u] := .cons ru .nil
  cases dx <;> simp only [blt] at e <;> try (cases e; done)
  · obtain ⟨h1, h2⟩ := chk_ok e; cases h2
    cases r
    rw [LIM_eq, decide_eq_true_eq] at h1
    exact call_len pins s σ H _ _ Q I rv ⟨_, _, rfl, ⟨h1, rfl⟩, qq _ (.int _)⟩
  · cases e
    cases r with
    | tup ha g rs => exact call_len pins s σ H _ _ Q I rv ⟨_, _, rfl, .inr ⟨_, ha.sq, rs.length.symm⟩, qq _ (.int _)⟩
  · cases e
    cases r with
    | lst ha g rs => exact call_len pins s σ H _ _ Q I rv ⟨_, _, rfl, .inl ⟨_, SqL.of ha, rs.length.symm⟩, qq _ (.int _)⟩
  · cases e
    cases r with
    | scr ha => exact call_len pins s σ H _ _ Q I rv ⟨_, _, rfl, .inl ⟨_, scr_sq ha, by rw [List.length_map]⟩, qq _ (.int _)⟩
theorem call_allD (hc : X.calm = true) : CallR X (.builtin "all") (rC (.of X) (blt .all)) := by
  refine callD1 (blt1 (by decide)) fun pins s σ H x u Q G dx d I ru fr r e q qq => ?_
  have rv : Vals [x] [u] := .cons ru .nil
  cases dx <;> simp only [blt] at e <;> try (cases e; done)
  split at e
  · rename_i bs eb
    cases e
    have z := bls?_map eb; subst z
    cases r with
    | lst ha g rs =>
      have z := rs.of_bls; subst z
      exact cr_all hc pins s σ H _ _ Q I rv ⟨_, bs, rfl, SqL.of ha, qq _ (.bl _)⟩
  · cases e
theorem call_anyD (hc : X.calm = true) : CallR X (.builtin "any") (rC (.of X) (blt .any)) := by
  refine callD1 (blt1 (by decide)) fun pins s σ H x u Q G dx d I ru fr r e q qq => ?_
  have rv : Vals [x] [u] := .cons ru .nil
  cases dx <;> simp only [blt] at e <;> try (cases e; done)
  split at e
  · rename_i bs eb
    cases e
    have z := bls?_map eb; subst z
    cases r with
    | lst ha g rs =>
      have z := rs.of_bls; subst z
      exact cr_any hc pins s σ H _ _ Q I rv ⟨_, bs, rfl, SqL.of ha, qq _ (.bl _)⟩
  · cases e
theorem call_intD : CallR X (.type "int") (rC (.of X) (blt .int)) := by
  refine callD1 (blt1 (by decide)) fun pins s σ H x u Q G dx d I ru fr r e q qq => ?_
  have rv : Vals [x] [u] := .cons ru .nil
  cases dx <;> simp only [blt] at e <;> try (cases e; done)
  · cases r; cases e
    exact call_int1 pins s σ H _ _ Q I rv (.inr ⟨_, rfl, qq _ (.int _)⟩)
  · cases r; cases e
    exact call_int1 pins s σ H _ _ Q I rv (.inl ⟨_, rfl, qq _ (.int _)⟩)
  · split at e
    · rename_i n en
      obtain ⟨h1, h2⟩ := chk_ok e; cases h2
      cases r
      exact call_int_str pins s σ H _ _ Q I rv ⟨_, n, rfl, en, by simpa using h1, qq _ (.int _)⟩
    · cases e
theorem call_listD (hc : X.calm = true) : CallR X (.type "list") (rC (.of X) (blt .lis)) := by
  refine callD1 (blt1 (by decide)) fun pins s σ H x u Q G dx d I ru fr r e q qq => ?_
  have rv : Vals [x] [u] := .cons ru .nil
  cases dx <;> simp only [blt] at e <;> try (cases e; done)
  · cases e
    cases r with
    | tup ha g rs => exact call_list_of pins s σ H _ _ Q I rv ⟨_, _, rfl, .inr (ha.sq), fun l hl => fin_lst fr hl rs q⟩
  · cases e
    cases r with
    | lst ha g rs => exact call_list_of pins s σ H _ _ Q I rv ⟨_, _, rfl, .inl (SqL.of ha), fun l hl => fin_lst fr hl rs q⟩
  · cases e
    cases r with
    | @dic a xs kvs ho g rk =>
      cases ru
      obtain ⟨hn, ys, yr, m⟩ := dic_of I ho rk
      obtain ⟨es, ep, hr, hs, he⟩ := Heap.DictOfH.raw m
      have hz := ho.2.1
      have hl : ys.length = xs.length := (Paired.length yr).symm
      refine PySem.W.kdl_call (PySem.KdlSrc.rawDict (es := es) (ep := ep) hn) (I.ok.hd hc) hr (by rw [hs, hl]; exact hz) fun h' tk acc c' k hS hacc => ?_
      have ea : acc.toList = ys.map fun y => Value.ref y.2.1 := by
        refine List.ext_getElem? fun i => ?_
        by_cases hi : i < es.size
        · obtain ⟨y, hy, h1, h2, h3⟩ := he i hi
          have hia : i < acc.size := by rw [hacc.1]; exact hi
          obtain ⟨hi', ev⟩ := hacc.2 i acc[i] (by simp [hia])
          rw [List.getElem?_map, hy, Array.getElem?_toList, Array.getElem?_eq_getElem hia, ev]
          simp [h1]
        · rw [List.getElem?_eq_none (by rw [Array.length_toList, hacc.1]; omega), List.getElem?_eq_none (by rw [List.length_map, ← hs]; omega)]
      have hn' : H s.heap.objs.size = none := I.hok.fresh (Nat.le_refl _)
      refine ⟨.ref s.heap.objs.size, _, I.laid (a := s.heap.objs.size) (o := .lst (xs.map fun x => V.ref x.2.1)) (t' := tk) k (Nat.le_refl _) ⟨by rw [List.length_map]; exact hz, acc.toList, c', ?_, ?_⟩, rfl, fin_lst fr hn' (reps_keys rk) q⟩
      · rw [ea]; exact vals_keys (T := .of X) (G := G) yr
      · simpa using hS
theorem call_tupleD : CallR X (.type "tuple") (rC (.of X) (blt .tup)) := by
  refine callD1 (blt1 (by decide)) fun pins s σ H x u Q G dx d I ru fr r e q qq => ?_
  have rv : Vals [x] [u] := .cons ru .nil
  cases dx <;> simp only [blt] at e <;> try (cases e; done)
  · cases e
    cases r with
    | tup ha g rs => exact call_tuple_ofF pins s σ H _ _ Q I rv ⟨_, _, rfl, .inr ⟨ha.sq, qq _ (.tup ha g rs)⟩⟩
  · cases e
    cases r with
    | lst ha g rs => exact call_tuple_ofF pins s σ H _ _ Q I rv ⟨_, _, rfl, .inl ⟨SqL.of ha, fin_tup fr rs q⟩⟩
theorem blt2 {b : BF} (hb : b = .mn2 ∨ b = .mx2) {ds : List D} {d : D} (e : blt b ds = .ok d) : ∃ i j, ds = [.int i, .int j] := by
  rcases hb with rfl | rfl
  · unfold blt at e
    split at e <;> simp_all
  · unfold blt at e
    split at e <;> simp_all
theorem call_mx2D (hc : X.calm = true) : CallR X (.builtin "max") (rC (.of X) (blt .mx2)) := by
  intro pins s σ H xs us Q I rv ⟨G, ds, d, fr, r, e, q⟩
  obtain ⟨i, j, rfl⟩ := blt2 (.inr rfl) e
  cases r with
  | cons r1 r2 =>
    cases r2 with
    | cons r2 r3 =>
      cases r3; cases r1; cases r2; cases e
      exact call_max2 hc pins s σ H _ _ Q I rv ⟨i, j, rfl, q _ H (Ext.refl H) (.int _)⟩
theorem call_mn2D (hc : X.calm = true) : CallR X (.builtin "min") (rC (.of X) (blt .mn2)) := by
  intro pins s σ H xs us Q I rv ⟨G, ds, d, fr, r, e, q⟩
  obtain ⟨i, j, rfl⟩ := blt2 (.inl rfl) e
  cases r with
  | cons r1 r2 =>
    cases r2 with
    | cons r2 r3 =>
      cases r3; cases r1; cases r2; cases e
      exact call_min2 hc pins s σ H _ _ Q I rv ⟨i, j, rfl, q _ H (Ext.refl H) (.int _)⟩
theorem maxI_mem : ∀ (ns : List Int) (m : Int), maxI m ns ∈ m :: ns ∧ m ≤ maxI m ns ∧ ∀ y ∈ ns, y ≤ maxI m ns
  | [], m => ⟨by simp [maxI], by simp [maxI], fun y h => nomatch h⟩
  | x :: r, m => by
    obtain ⟨h1, h2, h3⟩ := maxI_mem r (if m < x then x else m)
    unfold maxI
    refine ⟨?_, ?_, fun y hy => ?_⟩
    · rcases List.mem_cons.mp h1 with h | h
      · rw [h]; split <;> simp
      · exact List.mem_cons_of_mem _ (List.mem_cons_of_mem _ h)
    · refine Int.le_trans ?_ h2; split <;> omega
    · rcases List.mem_cons.mp hy with rfl | hy
      · refine Int.le_trans ?_ h2; split <;> omega
      · exact h3 y hy
theorem minI_mem : ∀ (ns : List Int) (m : Int), minI m ns ∈ m :: ns ∧ minI m ns ≤ m ∧ ∀ y ∈ ns, minI m ns ≤ y
  | [], m => ⟨by simp [minI], by simp [minI], fun y h => nomatch h⟩
  | x :: r, m => by
    obtain ⟨h1, h2, h3⟩ := minI_mem r (if x < m then x else m)
    unfold minI
    refine ⟨?_, ?_, fun y hy => ?_⟩
    · rcases List.mem_cons.mp h1 with h | h
      · rw [h]; split <;> simp
      · exact List.mem_cons_of_mem _ (List.mem_cons_of_mem _ h)
    · refine Int.le_trans h2 ?_; split <;> omega
    · rcases List.mem_cons.mp hy with rfl | hy
      · refine Int.le_trans h2 ?_; split <;> omega
      · exact h3 y hy
theorem maxI_eq {n : Int} {ns : List Int} {m : Int} (h1 : m ∈ n :: ns) (h2 : ∀ y ∈ n :: ns, y ≤ m) : m = maxI n ns := by
  obtain ⟨a, b, c⟩ := maxI_mem ns n
  have e1 := h2 _ a
  have e2 : m ≤ maxI n ns := by
    rcases List.mem_cons.mp h1 with rfl | h
    · exact b
    · exact c m h
  omega
theorem minI_eq {n : Int} {ns : List Int} {m : Int} (h1 : m ∈ n :: ns) (h2 : ∀ y ∈ n :: ns, m ≤ y) : m = minI n ns := by
  obtain ⟨a, b, c⟩ := minI_mem ns n
  have e1 := h2 _ a
  have e2 : minI n ns ≤ m := by
    rcases List.mem_cons.mp h1 with rfl | h
    · exact b
    · exact c m h
  omega
theorem maxD_int : ∀ (ns : List Int) (n : Int), PySem.W.maxD (.int n) (ns.map PyData.int) = .int (maxI n ns)
  | [], n => rfl
  | x :: r, n => by
    unfold PySem.W.maxD
    rw [List.map_cons, List.foldl_cons]
    have e : (if PySem.W.dataLt (.int n) (.int x) = true then PyData.int x else PyData.int n) = .int (if n < x then x else n) := by
      rw [PySem.W.dataLt_int]; by_cases h : n < x <;> simp [h]
    have := maxD_int r (if n < x then x else n)
    unfold PySem.W.maxD at this
    rw [e]
    unfold maxI
    exact this
theorem call_mx1D (hc : X.calm = true) (hu : X.A.units + 80 < cLine) : CallR X (.builtin "max") (rC (.of X) (blt .mx1)) := by
  refine callD1 (blt1 (by decide)) fun pins s σ H x u Q G dx d I ru fr r e q qq => ?_
  have rv : Vals [x] [u] := .cons ru .nil
  cases dx <;> simp only [blt] at e <;> try (cases e; done)
  · split at e
    · rename_i n ns en
      cases e
      have z := ints?_map en; subst z
      cases r with
      | tup ha g rs =>
        have z := rs.of_ints; subst z
        cases ru
        obtain ⟨its, rv', ⟨o, h1, h2, k, h3⟩, hz⟩ := I.tuple (ha.sq)
        obtain ⟨as, hr⟩ := Dp.readsAll I ((n :: ns).map PyData.int) _ its (by rw [← toPys_ints]; exact Reps.dp (n := 0) rs (shaps_ints 0 _)) rv'
        refine PySem.W.max_tuple_data (x := .int n) (xs := ns.map .int) (I.ok.hd hc) ⟨o, h1, h2, k, h3⟩ (by simpa using hr) ?_ ?_ fun i v h' tk bs hv hrd hk => ?_
        · have z : (PyData.int n :: ns.map PyData.int) = (n :: ns).map PyData.int := rfl
          rw [z]
          refine ⟨fun a ha b hb => ?_, fun a ha => ?_⟩
          · obtain ⟨a', _, rfl⟩ := List.mem_map.mp ha
            obtain ⟨b', _, rfl⟩ := List.mem_map.mp hb
            simp [PySem.W.alike]
          · obtain ⟨a', _, rfl⟩ := List.mem_map.mp ha
            simp
        · have : (PyData.int n :: ns.map PyData.int) = (n :: ns).map PyData.int := rfl
          rw [this, PySem.W.depth_ints]; omega
        · rw [maxD_int] at hrd
          cases hrd with
          | int _ t => exact ⟨.int (maxI n ns), H, I.kept hk, ⟨t, rfl⟩, qq _ (.int _)⟩
    · cases e
  · split at e
    · rename_i n ns en
      cases e
      have z := ints?_map en; subst z
      cases r with
      | lst ha g rs =>
        have z := rs.of_ints; subst z
        refine cr_max hc pins s σ H _ _ Q I rv ⟨_, n :: ns, rfl, SqL.of ha, by simp, fun m h1 h2 => ?_⟩
        rw [maxI_eq h1 h2]; exact qq _ (.int _)
    · cases e
theorem call_mn1D (hc : X.calm = true) : CallR X (.builtin "min") (rC (.of X) (blt .mn1)) := by
  refine callD1 (blt1 (by decide)) fun pins s σ H x u Q G dx d I ru fr r e q qq => ?_
  have rv : Vals [x] [u] := .cons ru .nil
  cases dx <;> simp only [blt] at e <;> try (cases e; done)
  split at e
  · rename_i n ns en
    cases e
    have z := ints?_map en; subst z
    cases r with
    | lst ha g rs =>
      have z := rs.of_ints; subst z
      refine cr_min hc pins s σ H _ _ Q I rv ⟨_, n :: ns, rfl, SqL.of ha, by simp, fun m h1 h2 => ?_⟩
      rw [minI_eq h1 h2]; exact qq _ (.int _)
  · cases e
theorem call_strD : CallR X (.type "str") (rC (.of X) (blt .str)) := by
  refine callD1 (blt1 (by decide)) fun pins s σ H x u Q G dx d I ru fr r e q qq => ?_
  have rv : Vals [x] [u] := .cons ru .nil
  cases dx <;> simp only [blt] at e <;> try (cases e; done)
  rename_i i
  obtain ⟨h1, h2⟩ := chk_ok e; cases h2
  cases r
  simp only [Bool.and_eq_true, decide_eq_true_eq] at h1
  refine call_str_int pins s σ H _ _ Q I rv ⟨_, rfl, ?_, qq _ (.str _)⟩
  by_cases z : i.natAbs = 0
  · rw [z]; decide
  · rw [Nat.log2_lt z]
    have : i.natAbs < 2 ^ 34 := by omega
    exact Nat.lt_of_lt_of_le this (Nat.pow_le_pow_right (by decide) (by decide))
end
end Ev

/-! Ev7d: dict(pairs), the keys tuples. -/
namespace Ev
open PySem PySem.Spec L2
open PyProof.Rows hiding St
section
variable {X : Cx} {pins : List (Addr × Obj)} {σ : St} {H : Hp} {s : Shared} {T : Wd} {G : Addr → Prop}
def addAll (xs XS : List (NestedKey × Addr × V)) : List (NestedKey × Addr × V) := xs.foldl (fun a p => storeV a p.1 p.2.1 p.2.2) XS
theorem storeV_le {xs : List (NestedKey × Addr × V)} {k : NestedKey} {a : Addr} {v : V} : (storeV xs k a v).length ≤ xs.length + 1 := by
  unfold storeV
  split
  · rw [List.length_map]; omega
  · rw [List.length_append]; simp
theorem addAll_len : ∀ {xs XS : List (NestedKey × Addr × V)}, (addAll xs XS).length ≤ XS.length + xs.length
  | [], XS => by simp [addAll]
  | x :: xs, XS => by
    have h := addAll_len (xs := xs) (XS := storeV XS x.1 x.2.1 x.2.2)
    have h2 := storeV_le (xs := XS) (k := x.1) (a := x.2.1) (v := x.2.2)
    show (addAll xs (storeV XS x.1 x.2.1 x.2.2)).length ≤ _
    simp only [List.length_cons]
    omega
theorem fold_dic : ∀ {xs : List (NestedKey × Addr × V)} {ps : List (NestedKey × Addr × Value)} {kvs : List (D × D)}, Repk T G H xs kvs → YRel xs ps → ∀ {XS : List (NestedKey × Addr × V)} {YS : List (NestedKey × Addr × Value)} {KVS : List (D × D)}, Repk T G H XS KVS → YRel XS YS →
    Repk T G H (addAll xs XS) (kvs.foldl (fun a p => put a p.1 p.2) KVS) ∧ YRel (addAll xs XS) (storedAllH YS ps)
  | _, _, _, .nil, .nil, _, _, _, r, y => ⟨r, y⟩
  | _, _, _, .cons (k := k) (a := a) (v := v) (d := d) ra hk rv rs, .cons (b := (q1, q2, q3)) e es, XS, YS, KVS, r, y => by
    obtain ⟨e1, e2, e3⟩ := e
    simp only at e1 e2 e3
    subst e1 e2
    exact fold_dic rs es (repk_store hk ra rv r) (yrel_store (k := nk k) (a := a) e3 y)
theorem pairs_tri (I : Inv X pins σ H s) : ∀ {ds : List D} {vs : List V} {us : List Value} {kvs : List (D × D)}, Reps T G H vs ds → Vals vs us → pairs? ds = some kvs → (kvs.all fun p => keyT p.1) = true →
    ∃ (Ts : List Addr) (ps : List (NestedKey × Addr × Value)) (xs : List (NestedKey × Addr × V)), us = Ts.map Value.ref ∧ Ts.length = ps.length ∧ YRel xs ps ∧ Repk T G H xs kvs ∧ (∀ (j : Nat) p, ps[j]? = some p → ∃ t, Ts[j]? = some t ∧ PairAt s.heap t (.ref p.2.1) p.2.2)
  | [], _, _, kvs, .nil, r, h, _ => by
    cases r
    cases h
    exact ⟨[], [], [], rfl, rfl, .nil, .nil, fun j p e => by simp at e⟩
  | d :: ds, _, _, kvs, .cons h1 h2, r, h, hk => by
    cases r with
    | cons r1 r2 =>
      unfold pairs? at h
      split at h
      · rename_i e
        cases e
      · rename_i k v ds' e
        injection e with e1 e2
        subst e1 e2
        rw [Option.map_eq_some_iff] at h
        obtain ⟨kvs', h, rfl⟩ := h
        rw [List.all_cons, Bool.and_eq_true] at hk
        obtain ⟨Ts, ps, xs, a1, a2, a3, a4, a5⟩ := pairs_tri I h2 r2 h hk.2
        cases h1 with
        | tup ha g rs =>
          cases rs with
          | cons rk rs =>
            cases rs with
            | cons rv rs =>
              cases rs
              rename_i t vk vv
              obtain ⟨ak, rfl⟩ := key_ref rk hk.1
              cases r1
              obtain ⟨its, rvals, ⟨o, ho, hc, n, hd⟩, _⟩ := I.tuple ha.sq
              cases rvals with
              | cons q1 rvals =>
                cases rvals with
                | cons q2 rvals =>
                  cases rvals
                  cases q1
                  rename_i uv
                  refine ⟨t :: Ts, (nk k, ak, uv) :: ps, (nk k, ak, vv) :: xs, by rw [a1]; rfl, by simp [a2], .cons ⟨rfl, rfl, q2⟩ a3, .cons rk hk.1 rv a4, fun j p e => ?_⟩
                  cases j with
                  | zero =>
                    simp only [List.getElem?_cons_zero, Option.some.injEq] at e
                    subst e
                    exact ⟨t, rfl, .inl ⟨o, ho, hc, n, hd⟩⟩
                  | succ j =>
                    simp only [List.getElem?_cons_succ] at e ⊢
                    exact a5 j p e
      · cases h
theorem call_dicD (hc : X.calm = true) (hu : X.A.units + 80 < cLine) : CallR X (.type "dict") (rC (.of X) (blt .dic)) := by
  refine callD1 (blt1 (by decide)) fun pins s σ H x u Q G dx d I ru fr r e q qq => ?_
  cases dx <;> simp only [blt] at e <;> try (cases e; done)
  cases r with
  | lst ha g rs =>
    rename_i ds a vs
    cases ru
    split at e
    · rename_i kvs hp
      obtain ⟨h1, h2⟩ := chk_ok e
      cases h2
      obtain ⟨its, rv, pl, hz⟩ := I.list (SqL.of ha)
      obtain ⟨Ts, ps, xs, a1, a2, a3, a4, a5⟩ := pairs_tri I rs rv hp h1
      obtain ⟨o, n, ho, hcl, hd, hdat⟩ := pl
      subst a1
      have hn : vs.length = ps.length := by rw [rv.length, List.length_map, a2]
      let PS : List (Value × Value) := ps.map fun p => (Value.ref p.2.1, p.2.2)
      have P := PairArg.list (prog := X.prog) (w := X.w) a (Ts.map Value.ref).toArray (fun j => Ts.getD j 0) PS
      have hlenP : PS.length = ps.length := by simp [PS]
      refine call_dict_pairsH (knd := nestedKind X.prog X.w) (ps := ps) P (I.ok.hd hc) (show X.A.units + 1 + 1 + 8 < cLine by omega) ⟨⟨o, n, ho, hcl, hd, hdat⟩, ?_, ?_⟩ ⟨hlenP.symm, ?_⟩ ?_ (by rw [hlenP, ← hn]; exact hz) fun h' tk hd' k => ?_
      · simp [PS, a2]
      · intro j k v hj
        simp only [PS, List.getElem?_map, Option.map_eq_some_iff] at hj
        obtain ⟨p, hj, e⟩ := hj
        cases e
        obtain ⟨t, ht, hpa⟩ := a5 j p hj
        have e2 : Ts.getD j 0 = t := by rw [List.getD_eq_getElem?_getD, ht]; rfl
        simp only [e2]
        exact ⟨by simp [ht], hpa⟩
      · intro i key v hi
        have hi2 : PS[i]? = some (key, v) := hi
        simp only [PS, List.getElem?_map, Option.map_eq_some_iff] at hi2
        obtain ⟨p, hi2, e⟩ := hi2
        cases e
        exact ⟨p.1, p.2.1, hi2, rfl⟩
      · intro h' hk y hy
        have := repk_is I a4 a3 y hy
        refine nestedKind_stays.stays (fun b o vs m e q => hk b o ?_ (fun z => nomatch z) e) this
        exact Nat.ne_of_lt (Heap.lt_size e)
      · obtain ⟨f1, f2⟩ := fold_dic a4 a3 (.nil : Repk (.of X) G H [] []) (.nil : YRel [] [])
        have hm : (s.heap.objs.size == sysModules) = false := beq_eq_false_iff_ne.mpr (Nat.ne_of_gt I.big)
        have hz2 : (addAll xs []).length ≤ sizeLine := by
          have := addAll_len (xs := xs) (XS := [])
          have h3 : xs.length = ps.length := Paired.length a3
          simp at this
          omega
        obtain ⟨ob, ho', hx'⟩ := obj_of (H := H) (xs := addAll xs []) hm hz2 f2 hd'
        refine ⟨.ref s.heap.objs.size, upd H s.heap.objs.size ob, I.laid (t' := tk) (fun b o e => k b o (fun z => nomatch z) e) (Nat.le_refl _) (ho' _), rfl, ?_⟩
        have hf : H s.heap.objs.size = none := I.hok.fresh (Nat.le_refl _)
        exact q _ _ (Ext.upd hf) (.dic (hx' _ upd_same) (fr _ hf) (f1.evo (Ext.upd hf).evo))
    · cases e
end
end Ev

/-! Ev8: sorted(set(xs)). -/
namespace Ev
open PySem PySem.Spec L2
open PyProof.Rows hiding St

theorem insI_mem (n k : Int) : ∀ l : List Int, k ∈ insI n l ↔ k = n ∨ k ∈ l
  | [] => by simp [insI]
  | x :: r => by
    unfold insI
    split
    · simp
    · split
      · rename_i h; subst h; simp
      · simp only [List.mem_cons, insI_mem n k r]
        constructor
        · rintro (h | h | h) <;> simp [h]
        · rintro (h | h | h) <;> simp [h]
theorem insI_pw (n : Int) : ∀ l : List Int, l.Pairwise (· < ·) → (insI n l).Pairwise (· < ·)
  | [], _ => by simp [insI]
  | x :: r, h => by
    obtain ⟨h1, h2⟩ := List.pairwise_cons.mp h
    unfold insI
    split
    · rename_i hn
      refine List.pairwise_cons.mpr ⟨fun y hy => ?_, h⟩
      rcases List.mem_cons.mp hy with rfl | hy
      · exact hn
      · exact Int.lt_trans hn (h1 y hy)
    · split
      · exact h
      · rename_i a b
        refine List.pairwise_cons.mpr ⟨fun y hy => ?_, insI_pw n r h2⟩
        rcases (insI_mem n y r).mp hy with rfl | hy
        · omega
        · exact h1 y hy
theorem dedupI_ok (ns : List Int) : (dedupI ns).Pairwise (· < ·) ∧ ∀ k, k ∈ dedupI ns ↔ k ∈ ns := by
  induction ns with
  | nil => exact ⟨.nil, fun _ => Iff.rfl⟩
  | cons n ns ih =>
    refine ⟨insI_pw n _ ih.1, fun k => ?_⟩
    show k ∈ insI n (dedupI ns) ↔ _
    rw [insI_mem, ih.2, List.mem_cons]
theorem rising_one : ∀ {l m : List Int}, l.Pairwise (· < ·) → m.Pairwise (· < ·) → (∀ k, k ∈ l ↔ k ∈ m) → l = m
  | [], [], _, _, _ => rfl
  | [], y :: m, _, _, h => absurd ((h y).mpr (by simp)) (by simp)
  | x :: l, [], _, _, h => absurd ((h x).mp (by simp)) (by simp)
  | x :: l, y :: m, hl, hm, h => by
    obtain ⟨l1, l2⟩ := List.pairwise_cons.mp hl
    obtain ⟨m1, m2⟩ := List.pairwise_cons.mp hm
    have e : x = y := by
      have a := (h x).mp (by simp)
      have b := (h y).mpr (by simp)
      rcases List.mem_cons.mp a with a | a
      · exact a
      · rcases List.mem_cons.mp b with b | b
        · exact b.symm
        · have := l1 y b; have := m1 x a; omega
    subst e
    rw [rising_one l2 m2 fun k => ?_]
    constructor
    · intro hk
      rcases List.mem_cons.mp ((h k).mp (List.mem_cons_of_mem _ hk)) with z | z
      · subst z; exact absurd (l1 _ hk) (by omega)
      · exact z
    · intro hk
      rcases List.mem_cons.mp ((h k).mpr (List.mem_cons_of_mem _ hk)) with z | z
      · subst z; exact absurd (m1 _ hk) (by omega)
      · exact z

section
variable {X : Cx}
theorem call_setD (hc : X.calm = true) : CallR X (.type "set") (fun xs H Q => ∃ (a : Addr) (ns : List Int), xs = [.ref a] ∧ H a = some (.lst (ns.map V.int)) ∧ ns.length ≤ 50 ∧ ∀ p c, H p = none → c ≤ ns.length → Q (.ref p) (upd H p (SetO X.w p (fun j => decide (j ∈ ns)) c))) := by
  intro pins s σ H xs us Q I r ⟨a, ns, e, ha, hl, q⟩
  subst e
  rw [Vals.ref1 r]
  obtain ⟨hz, its, n, rv, hl', h1⟩ := I.lstM ha
  refine call_set_ints ns (I.ok.hd hc) ⟨_, h1, rfl, n, rfl⟩ (by simpa using rv.ints) (by unfold scanBound; omega) fun h' tk c hS hc' hk => ?_
  exact ⟨.ref s.heap.objs.size, _, I.laid hk (Nat.le_refl _) (setO_new hS), rfl, q _ c (I.hok.fresh (Nat.le_refl _)) hc'⟩
end
section
variable {X : Cx}
/-- xs.count(d) -/
theorem mt_countD (hu : X.A.units + 80 < cLine) : MtR X "list.count" (fun x xs H Q => ∃ G ds dv d vd, Rep (.of X) G H x (.lst ds) ∧ xs = [vd] ∧ Rep (.of X) G H vd dv ∧ meth .count (.lst ds) [dv] = .ok d ∧ ∀ v, Rep (.of X) G H v d → Q v H) := by
  intro pins s σ H x xs v us Q I rx rxs ⟨G, ds, dv, d, vd, r1, e1, r2, em, q⟩
  subst e1
  obtain ⟨c1, c2⟩ := chk_ok (show chk (shape dv && shape (.lst ds)) (.ok (.int ((ds.countP fun z => eqv z dv : Nat) : Int))) = .ok d from em)
  cases c2
  obtain ⟨c1, c3⟩ : shape dv = true ∧ shape (.lst ds) = true := by simpa using c1
  have d1 := Rep.dp r2 c1
  have d2 := Rep.dp r1 c3
  have sd := shaped_of c1
  have sl := shaped_of c3
  rw [toPy] at d2 sl
  cases r1 with
  | @lst a vs _ hH g rs =>
    cases rx
    cases rxs with
    | cons ry rt =>
      rename_i uy ut
      cases rt
      obtain ⟨bs, r1⟩ := Dp.reads I (toPy dv) vd uy d1 ry
      have hxs : PyData.canLayAll0 (toPys ds) = true := SeqAt.canLay_of_shaped sl
      have hroom : X.A.units + 1 + min (PyData.depthAll (toPys ds)) (toPy dv).depth < cLine := by
        have h1 := SeqAt.depth_of_shaped sd
        have h2 : min (PyData.depthAll (toPys ds)) (toPy dv).depth ≤ (toPy dv).depth := Nat.min_le_right _ _
        omega
      cases d2 with
      | lst hs ha =>
        obtain ⟨its, rv, ⟨⟨cls, dd, data, sls⟩, n, ho, hc, hdn, hdt⟩, hlen⟩ := I.list hs
        simp only at hc hdt
        subst hc hdt
        obtain ⟨as, h4⟩ := Dp.readsAll I (toPys ds) _ its ha rv
        have hmap : its.map (SeqAt.readOf s.heap) = toPys ds := SeqAt.readsAll_map (toPys ds) its as hxs h4
        refine call_meets PySem.F.slot_list_count ⟨_, ho, rfl⟩ PySem.F.entry_list_count (PySem.F.args_list_count_2 _ _)
          (SeqAt.list_countAt a its.toArray n dd sls uy (fun u => PyData.eqv (SeqAt.readOf s.heap u) (toPy dv))) ⟨ho, SeqAt.items_eqAt (vs := its.toArray) (show ReadsAll s.heap its.toArray.toList (toPys ds) as from h4) r1 hxs (SeqAt.canLay_of_shaped sd) hroom, ?_⟩
        have ec : its.toArray.toList.countP (fun u => PyData.eqv (SeqAt.readOf s.heap u) (toPy dv)) = ds.countP fun z => eqv z dv := by
          have h5 : its.countP (fun u => PyData.eqv (SeqAt.readOf s.heap u) (toPy dv)) = (its.map (SeqAt.readOf s.heap)).countP (fun z => PyData.eqv z (toPy dv)) := by rw [List.countP_map]; rfl
          have h6 : (ds.map toPy).countP (fun z => PyData.eqv z (toPy dv)) = ds.countP fun z => eqv z dv := by rw [List.countP_map]; rfl
          rw [List.toList_toArray, h5, hmap, toPys_map, h6]
        refine ⟨.int ((ds.countP fun z => eqv z dv : Nat) : Int), H, I.tok _, ⟨s.toks, ?_⟩, q _ (.int _)⟩
        show Value.int ((its.toArray.toList.countP (fun u => PyData.eqv (SeqAt.readOf s.heap u) (toPy dv)) : Nat) : Int) s.toks = _
        rw [ec]
end
end Ev

/-! Ev8b: t.count(d). -/
namespace Ev
open PySem PySem.Spec L2
open PyProof.Rows hiding St
section
variable {X : Cx}
/-- t.count(d) -/
theorem mt_countT (hu : X.A.units + 80 < cLine) : MtR X "tuple.count" (fun x xs H Q => ∃ G ds dv d vd, Rep (.of X) G H x (.tup ds) ∧ xs = [vd] ∧ Rep (.of X) G H vd dv ∧ meth .count (.tup ds) [dv] = .ok d ∧ ∀ v, Rep (.of X) G H v d → Q v H) := by
  intro pins s σ H x xs v us Q I rx rxs ⟨G, ds, dv, d, vd, r1, e1, r2, em, q⟩
  subst e1
  obtain ⟨c1, c2⟩ := chk_ok (show chk (shape dv && shape (.tup ds)) (.ok (.int ((ds.countP fun z => eqv z dv : Nat) : Int))) = .ok d from em)
  cases c2
  obtain ⟨c1, c3⟩ : shape dv = true ∧ shape (.tup ds) = true := by simpa using c1
  have d1 := Rep.dp r2 c1
  have d2 := Rep.dp r1 c3
  have sd := shaped_of c1
  have sl := shaped_of c3
  rw [toPy] at d2 sl
  cases r1 with
  | @tup a vs _ hH g rs =>
    cases rx
    cases rxs with
    | cons ry rt =>
      rename_i uy ut
      cases rt
      obtain ⟨bs, r1⟩ := Dp.reads I (toPy dv) vd uy d1 ry
      have hxs : PyData.canLayAll0 (toPys ds) = true := SeqAt.canLay_of_shaped sl
      have hroom : X.A.units + 1 + min (PyData.depthAll (toPys ds)) (toPy dv).depth < cLine := by
        have h1 := SeqAt.depth_of_shaped sd
        have h2 : min (PyData.depthAll (toPys ds)) (toPy dv).depth ≤ (toPy dv).depth := Nat.min_le_right _ _
        omega
      cases d2 with
      | tup hs ha =>
        obtain ⟨its, rv, ⟨⟨cls, dd, data, sls⟩, ho, hc, n, hdt⟩, hlen⟩ := I.tuple hs
        simp only at hc hdt
        subst hc hdt
        obtain ⟨as, h4⟩ := Dp.readsAll I (toPys ds) _ its ha rv
        have hmap : its.map (SeqAt.readOf s.heap) = toPys ds := SeqAt.readsAll_map (toPys ds) its as hxs h4
        refine call_meets PySem.F.slot_tuple_count ⟨_, ho, rfl⟩ PySem.F.entry_tuple_count (PySem.F.args_tuple_count_2 _ _)
          (SeqAt.tuple_countAt a its.toArray n dd sls uy (fun u => PyData.eqv (SeqAt.readOf s.heap u) (toPy dv))) ⟨ho, SeqAt.items_eqAt (vs := its.toArray) (show ReadsAll s.heap its.toArray.toList (toPys ds) as from h4) r1 hxs (SeqAt.canLay_of_shaped sd) hroom, ?_⟩
        have ec : its.toArray.toList.countP (fun u => PyData.eqv (SeqAt.readOf s.heap u) (toPy dv)) = ds.countP fun z => eqv z dv := by
          have h5 : its.countP (fun u => PyData.eqv (SeqAt.readOf s.heap u) (toPy dv)) = (its.map (SeqAt.readOf s.heap)).countP (fun z => PyData.eqv z (toPy dv)) := by rw [List.countP_map]; rfl
          have h6 : (ds.map toPy).countP (fun z => PyData.eqv z (toPy dv)) = ds.countP fun z => eqv z dv := by rw [List.countP_map]; rfl
          rw [List.toList_toArray, h5, hmap, toPys_map, h6]
        refine ⟨.int ((ds.countP fun z => eqv z dv : Nat) : Int), H, I.tok _, ⟨s.toks, ?_⟩, q _ (.int _)⟩
        show Value.int ((its.toArray.toList.countP (fun u => PyData.eqv (SeqAt.readOf s.heap u) (toPy dv)) : Nat) : Int) s.toks = _
        rw [ec]
end
end Ev

/-! Ev8c: sorted(set(t)), t a tuple of tuples of ints. -/
namespace Ev
open PySem PySem.Spec L2
open PyProof.Rows hiding St

theorem insT_mem (n k : List Int) : ∀ l : List (List Int), k ∈ insT n l ↔ k = n ∨ k ∈ l
  | [] => by simp [insT]
  | x :: r => by
    unfold insT
    split
    · simp
    · split
      · rename_i h; subst h; simp
      · simp only [List.mem_cons, insT_mem n k r]
        constructor
        · rintro (h | h | h) <;> simp [h]
        · rintro (h | h | h) <;> simp [h]
theorem lt_tri {a b : List Int} (h1 : ¬ a < b) (h2 : a ≠ b) : b < a := by
  by_cases h : b < a
  · exact h
  · exact absurd (List.le_antisymm (List.not_lt.mp h) (List.not_lt.mp h1)) h2
theorem insT_pw (n : List Int) : ∀ l : List (List Int), l.Pairwise (· < ·) → (insT n l).Pairwise (· < ·)
  | [], _ => by simp [insT]
  | x :: r, h => by
    obtain ⟨h1, h2⟩ := List.pairwise_cons.mp h
    unfold insT
    split
    · rename_i hn
      refine List.pairwise_cons.mpr ⟨fun y hy => ?_, h⟩
      rcases List.mem_cons.mp hy with rfl | hy
      · exact hn
      · exact List.lt_trans hn (h1 y hy)
    · split
      · exact h
      · rename_i a b
        refine List.pairwise_cons.mpr ⟨fun y hy => ?_, insT_pw n r h2⟩
        rcases (insT_mem n y r).mp hy with rfl | hy
        · exact lt_tri a b
        · exact h1 y hy
theorem dedT_ok (ns : List (List Int)) : (dedT ns).Pairwise (· < ·) ∧ ∀ k, k ∈ dedT ns ↔ k ∈ ns := by
  induction ns with
  | nil => exact ⟨.nil, fun _ => Iff.rfl⟩
  | cons n ns ih =>
    refine ⟨insT_pw n _ ih.1, fun k => ?_⟩
    show k ∈ insT n (dedT ns) ↔ _
    rw [insT_mem, ih.2, List.mem_cons]
theorem risingT_one : ∀ {l m : List (List Int)}, l.Pairwise (· < ·) → m.Pairwise (· < ·) → (∀ k, k ∈ l ↔ k ∈ m) → l = m
  | [], [], _, _, _ => rfl
  | [], y :: m, _, _, h => absurd ((h y).mpr (by simp)) (by simp)
  | x :: l, [], _, _, h => absurd ((h x).mp (by simp)) (by simp)
  | x :: l, y :: m, hl, hm, h => by
    obtain ⟨l1, l2⟩ := List.pairwise_cons.mp hl
    obtain ⟨m1, m2⟩ := List.pairwise_cons.mp hm
    have e : x = y := by
      have a := (h x).mp (by simp)
      have b := (h y).mpr (by simp)
      rcases List.mem_cons.mp a with a | a
      · exact a
      · rcases List.mem_cons.mp b with b | b
        · exact b.symm
        · exact absurd (List.lt_trans (l1 y b) (m1 x a)) (List.lt_irrefl x)
    subst e
    rw [risingT_one l2 m2 fun k => ?_]
    constructor
    · intro hk
      rcases List.mem_cons.mp ((h k).mp (List.mem_cons_of_mem _ hk)) with z | z
      · subst z; exact absurd (l1 _ hk) (List.lt_irrefl _)
      · exact z
    · intro hk
      rcases List.mem_cons.mp ((h k).mpr (List.mem_cons_of_mem _ hk)) with z | z
      · subst z; exact absurd (m1 _ hk) (List.lt_irrefl _)
      · exact z
theorem code_ord {B : Int} : ∀ {n m : List Int}, n.length = m.length → TS.Bd B n → TS.Bd B m → TS.code B n ≤ TS.code B m → n ≠ m → n < m
  | [], [], _, _, _, _, h => absurd rfl h
  | [], _ :: _, h, _, _, _, _ => by simp at h
  | _ :: _, [], h, _, _, _, _ => by simp at h
  | a :: n, b :: m, hl, hn, hm, hc, hne => by
    have hl' : n.length = m.length := by simpa using hl
    rcases Int.lt_trichotomy a b with c | c | c
    · exact List.cons_lt_cons_iff.mpr (.inl c)
    · subst c
      refine List.cons_lt_cons_iff.mpr (.inr ⟨rfl, code_ord hl' hn.tail hm.tail ?_ fun e => hne (by rw [e])⟩)
      rcases Int.lt_or_le (TS.code B m) (TS.code B n) with z | z
      · have := (TS.code_same (B := B) (d := a) hl'.symm).mpr z
        omega
      · exact z
    · have := TS.code_lt (B := B) hl'.symm hm.tail hn.tail c
      omega
section
variable {X : Cx}
theorem cr_setOfTT (hc : X.calm = true) (hu : X.A.units + 64 < cLine) : CallR X (.type "set") (fun xs H Q => ∃ (l : Addr) (ks : List (Addr × List Int)), xs = [V.ref l] ∧ SqT X.K H l (ks.map fun p => V.ref p.1) ∧ (∀ p ∈ ks, SqT X.K H p.1 (p.2.map V.int)) ∧ ks.length < 64 ∧
    ∀ a L, H a = none → (∀ p ∈ L, p ∈ ks) → (∀ p ∈ ks, p.2 ∈ L.map (·.2)) → Q (.ref a) (upd H a (SetTO X.prog X.w a L))) := by
  intro pins s σ H xs us Q I r ⟨l, ks, e, hl, hk, hf, q⟩
  subst e
  rw [Vals.ref1 r]
  obtain ⟨its, rv, pl, hz⟩ := I.tuple hl
  have hn : H s.heap.objs.size = none := I.hok.fresh (Nat.le_refl _)
  refine call_set_tupT (P := X.prog) (w := X.w) ks (I.ok.hd hc) pl (by simpa using refs_of_vals rv) (fun p hp => I.isT (hk p hp)) hf (by omega) fun h' tk L es ep t R g k => ?_
  exact ⟨.ref s.heap.objs.size, _, I.laid (t' := tk) k (Nat.le_refl _) (setTO_new R.t0), rfl, q _ L hn (fun p hp => List.mem_of_mem_take (g.sub p hp)) fun p hp => g.all p (by rw [List.take_length]; exact hp)⟩
end
end Ev

/-! Ev9: when a text is such a term. -/
namespace Ev
open PySem PySem.Spec L2
open PyProof.Rows hiding St

/-- what is known of the text: the defs' names, the names of constants of the top -/
structure Tx where
  fn : Nat → Option Str
  gl : Nat → Option Str
  /-- the exceptions' classes: NoMove, NoText, MillError, ValueError -/
  xn : Nat → Option Str
def visB (sc : Scope) (x : Str) : Bool := match sc.names.lookup x with
  | some .local => true
  | some .cell => true
  | some .free => true
  | _ => false
def locB (sc : Scope) (x : Str) : Bool := match sc.names.lookup x with
  | some .local => true
  | some .cell => true
  | _ => false
def okN (x : Str) : Bool := !(x == ("__debug__" : Str)) && !(x == ("__classdict__" : Str)) && !(x == ("__name__" : Str))
def glB (sc : Scope) (x : Str) : Bool := (match sc.names.lookup x with
  | some .globalImplicit => true
  | _ => false) && okN x
def vrB (N : List Str) (sc : Scope) (i : Nat) (x : Str) : Bool := decide (N[i]? = some x) && visB sc x && okN x
def tgB (N : List Str) (sc : Scope) (i : Nat) (x : Str) : Bool := decide (N[i]? = some x) && locB sc x && okN x
def isStar : Expr → Bool
  | .Starred _ _ => true
  | _ => false
def isSet : Expr → Bool
  | .Set _ _ _ => true
  | _ => false
def isSl : Expr → Bool
  | .Slice _ _ _ _ => true
  | _ => false
def isCall : Expr → Bool
  | .Call _ _ _ _ => true
  | _ => false
def isLc : Expr → Bool
  | .ListComp _ _ _ _ => true
  | _ => false
def cstB : D → Const → Bool
  | .non, .none => true
  | .bl b, .bool c => b == c
  | .int i, .int j => decide (i = j)
  | .str s, .str t => decide (s = t)
  | _, _ => false
def bfName : BF → String
  | .len => "len" | .srt => "sorted" | .all => "all" | .any => "any" | .int => "int" | .lis => "list" | .tup => "tuple" | .mn2 => "min" | .mx2 => "max" | .mx1 => "max" | .mn1 => "min" | .str => "str" | .dic => "dict"
  | .lrg => "list" | .trg => "tuple" | .sst => "sorted"
def tnName : TN → String
  | .int => "int" | .bool => "bool" | .tup => "tuple" | .str => "str" | .lis => "list"
def mfName : MF → String
  | .count => "count" | .split => "split" | .join => "join" | .part => "partition" | .get => "get"
def mfKnown : MF → Bool
  | _ => true
def mfArity : MF → Nat
  | .get => 2
  | _ => 1
def tgM (N : List Str) (sc : Scope) : List Nat → List Expr → Bool
  | [], [] => true
  | i :: is, .Name x _ :: es => tgB N sc i x && tgM N sc is es
  | _, _ => false
def mTG (N : List Str) (sc : Scope) : TG → Expr → Bool
  | .one i, .Name x _ => tgB N sc i x
  | .tup is, .Tuple es _ _ => tgM N sc is es
  | _, _ => false
def ownOf (N : List Str) : TG → List (Str × Nat)
  | .one i => [(N.getD i "", i)]
  | .tup is => is.map fun i => (N.getD i "", i)
def isTupG : TG → Bool
  | .tup _ => true
  | _ => false
/-- list(range(..)), sorted(set(..)) -/
def inName : BF → Option Str
  | .lrg => some "range"
  | .trg => some "range"
  | .sst => some "set"
  | _ => none
def isDic (_ : BF) : Bool := false
def inArg (z : Str) (sc : Scope) : List Expr → Option (List Expr)
  | [.Call (.Name y _) as [] _] => if decide (y = z) && glB sc y then some as else none
  | _ => none
/-- the entries of a written dict of constants -/
def tabB : List (D × D) → List (Option Expr) → List Expr → Bool
  | [], [], [] => true
  | (k, d) :: kvs, some (.Constant c _ _) :: ks, .Constant e _ _ :: vs => keyF k && (cstV d).isSome && cstB k c && cstB d e && tabB kvs ks vs
  | _, _, _ => false
mutual
def mE (T : Tx) (N : List Str) : E → Scope → Expr → Bool
  | .var i, sc, .Name x _ => vrB N sc i x
  | .glb g, sc, .Name x _ => decide (T.gl g = some x) && glB sc x
  | .cst d, _, .Constant c _ _ => cstB d c
  | .bin o a b, sc, .BinOp l op r _ => decide (op = bop o) && mE T N a sc l && mE T N b sc r
  | .cmp o a b, sc, .Compare l ops cs _ => (match ops, cs with
    | [op], [r] => decide (op = cop o) && mE T N a sc l && mE T N b sc r && !isSet r
    | _, _ => false)
  | .chn o p a b c, sc, .Compare l ops cs _ => (match ops, cs with
    | [op, op'], [r, r'] => decide (op = cop o) && decide (op' = cop p) && mE T N a sc l && mE T N b sc r && mE T N c sc r' && !isSet r'
    | _, _ => false)
  | .bop k es, sc, .BoolOp op vs _ => decide (op = if k then BoolOp.And else BoolOp.Or) && mL T N es sc vs
  | .nt a, sc, .UnaryOp op x _ => decide (op = UnaryOp.Not) && mE T N a sc x
  | .neg a, sc, .UnaryOp op x _ => decide (op = UnaryOp.USub) && mE T N a sc x
  | .ife t a b, sc, .IfExp t' a' b' _ => mE T N t sc t' && mE T N a sc a' && mE T N b sc b'
  | .call f es, sc, .Call fn args kws _ => (match fn, kws with
    | .Name x _, [] => decide (T.fn f = some x) && glB sc x && mL T N es sc args
    | _, _ => false)
  | .blt f es, sc, .Call fn args kws _ => (match fn, kws with
    | .Name x _, [] => decide (x = Str.ofString (bfName f)) && glB sc x && (match inName f with
      | some z => (match inArg z sc args with
        | some as => mL T N es sc as && decide (as.length = 1)
        | none => false)
      | none => mL T N es sc args && !args.isEmpty && !isDic f)
    | _, _ => false)
  | .isi a t, sc, .Call fn args kws _ => (match fn, kws, args with
    | .Name x _, [], [e, .Name y _] => decide (x = Str.ofString "isinstance") && glB sc x && mE T N a sc e && !isStar e && decide (y = Str.ofString (tnName t)) && glB sc y
    | _, _, _ => false)
  | .isis a, sc, .Call fn args kws _ => (match fn, kws, args with
    | .Name x _, [], [e, .Tuple [.Name y _, .Name z _] _ _] => decide (x = Str.ofString "isinstance") && glB sc x && mE T N a sc e && !isStar e && decide (y = Str.ofString "int") && glB sc y && decide (z = Str.ofString "str") && glB sc z
    | _, _, _ => false)
  | .mth m o es, sc, .Call fn args kws cpos => mfKnown m && (match fn, kws with
    | .Attribute e x apos, [] => decide (x = Str.ofString (mfName m)) && mE T N o sc e && !isCall e && mL T N es sc args && decide (args.length = mfArity m) && (apos.endLine == cpos.line)
    | _, _ => false)
  | .sub a i, sc, .Subscript e j _ => mE T N a sc e && mE T N i sc j && !isSl j
  | .pick kvs i, sc, .Subscript e j _ => (match e with
    | .Dict ks vs _ => tabB kvs ks vs && (decide (kvs.length ≤ 15) && (!kvs.isEmpty && decide ((kvs.map fun p => fkey p.1).Nodup))) && mE T N i sc j && !isSl j
    | _ => false)
  | .slc a lo hi, sc, .Subscript e j _ => (match j with
    | .Slice l h none _ => mE T N a sc e && mO T N lo sc l && mO T N hi sc h
    | _ => false)
  | .rev a, sc, .Subscript e j _ => (match j with
    | .Slice none none (some (.UnaryOp op (.Constant (.int n) _ _) _)) _ => decide (op = UnaryOp.USub) && decide (n = 1) && mE T N a sc e
    | _ => false)
  | .tup es, sc, .Tuple xs _ _ => mL T N es sc xs && decide (xs.length < 100)
  | .lst es, sc, .List xs _ => mL T N es sc xs && decide (xs.length < 100)
  | .dct .nil .nil, _, .Dict [] [] _ => true
  | .cmpr elt tg it ifs, sc, .ListComp e gs scope _ => (match gs with
    | [⟨t, i, fs, 0⟩] => mI T N it sc i && (isTupG tg == mustTup it || isTupG tg) && mTG N scope tg t && mF T N ifs scope fs && mE T N elt scope e && blkC N sc scope (ownOf N tg) && !isSet i
    | _ => false)
  | _, _, _ => false
def mL (T : Tx) (N : List Str) : EL → Scope → List Expr → Bool
  | .nil, _, [] => true
  | .cons e es, sc, x :: xs => mE T N e sc x && !isStar x && mL T N es sc xs
  | _, _, _ => false
def mO (T : Tx) (N : List Str) : EL → Scope → Option Expr → Bool
  | .nil, _, none => true
  | .cons e .nil, sc, some x => mE T N e sc x
  | _, _, _ => false
def mF (T : Tx) (N : List Str) : EL → Scope → List Expr → Bool
  | .nil, _, [] => true
  | .cons e .nil, sc, [x] => mE T N e sc x
  | _, _, _ => false
def mI (T : Tx) (N : List Str) : IT → Scope → Expr → Bool
  | .it a, sc, e => mE T N a sc e
  | .r1 a, sc, .Call fn args kws _ => (match fn, kws, args with
    | .Name x _, [], [e] => decide (x = Str.ofString "range") && glB sc x && mE T N a sc e && !isStar e
    | _, _, _ => false)
  | .r2 a b, sc, .Call fn args kws _ => (match fn, kws, args with
    | .Name x _, [], [e, e'] => decide (x = Str.ofString "range") && glB sc x && mE T N a sc e && !isStar e && mE T N b sc e' && !isStar e'
    | _, _, _ => false)
  | .enu a, sc, .Call fn args kws _ => (match fn, kws, args with
    | .Name x _, [], [e] => decide (x = Str.ofString "enumerate") && glB sc x && mE T N a sc e && !isStar e
    | _, _, _ => false)
  | .zip a b, sc, .Call fn args kws _ => (match fn, kws, args with
    | .Name x _, [], [e, e'] => decide (x = Str.ofString "zip") && glB sc x && mE T N a sc e && !isStar e && mE T N b sc e' && !isStar e'
    | _, _, _ => false)
  | _, _, _ => false
def mustTup : IT → Bool
  | .enu _ => true
  | .zip _ _ => true
  | _ => false
end
end Ev

/-! Ev10: the context; expressions, one lemma for each form. -/
namespace Ev
open PySem PySem.Spec L2
open PyProof.Rows hiding St

/-- what a def of that evaluation promises -/
def spF (T : Wd) (xc : Nat → Value) (f : List D → R D) : Sp := fun vs H Q E => ∃ G ds, Fresh G H ∧ Reps T G H vs ds ∧ (match f ds with
  | .ok d => ∀ H', Ext H H' → HB H' → ∀ v, Rep T G H' v d → Q v H'
  | .exc c => ∀ H', Ext H H' → E (xc c) none H'
  | .bad => False)
def bNames : List String := ["len", "sorted", "all", "any", "int", "list", "tuple", "min", "max", "str", "dict", "range", "set", "isinstance", "bool", "enumerate", "zip"]
/-- what the context knows -/
structure Cok (Y : Tx) (X : Cx) (w : Ws) (sc : Scope) : Prop where
  T : w.T = .of X
  hN : X.N.Nodup
  calm : X.calm = true
  hu : X.A.units + 80 < cLine
  tk : Takes X w.W
  vis : ∀ x, visB sc x = true → Vis X.env.scope x
  loc : ∀ x, locB sc x = true → Loc X.env.scope x ∧ (X.fn x = true ∨ X.env.scope.names.lookup x = some .local)
  gl : ∀ x, glB sc x = true → Gl X x
  up : ∀ x, (sc.names.lookup x = some .cell ∨ sc.names.lookup x = some .free) → X.env.scope.names.lookup x = some .cell ∨ X.env.scope.names.lookup x = some .free
  blt : ∀ x ∈ bNames, X.mg (Str.ofString x) = none
  fns : ∀ f x, Y.fn f = some x → ∃ k a fd ps, Room k X.A ∧ X.mg x = some (.ref a) ∧ PySem.W.keepIn X.K (.ref a) = true ∧ Binds X.K fd ps [] ∧ FnOk X.prog X.w X.K X.mg X.base (L2.CX X.prog X.w) k a fd ps (spF w.T w.xc (w.C.call f))
  gls : ∀ g x, Y.gl g = some x → ∀ d, w.C.glob g = some d → ∃ v u, X.mg x = some u ∧ RelV v u ∧ ∀ G H, Rep w.T G H v d

/-- an exception is none of ours -/
abbrev Ws.mute (w : Ws) : Ws := { w with W := fun _ _ _ _ => False }
theorem takesN {X : Cx} : Takes X (fun _ _ _ _ => False) := fun _ _ x => by
  obtain ⟨_, _, _, _, _, _, _, _, _, _, _, _, _, _, _, _, h⟩ := x
  exact h.elim
theorem relS_free {sc : Scope} : ∀ {names : List (Str × NameKind)} {x : Str}, names.lookup x = some .free →
    (names.map fun (n, k) => if (k == NameKind.free && sc.kind == .function && sc.names.lookup n == some .cell) then (n, NameKind.cell) else (n, k)).lookup x = some .free ∨
    (names.map fun (n, k) => if (k == NameKind.free && sc.kind == .function && sc.names.lookup n == some .cell) then (n, NameKind.cell) else (n, k)).lookup x = some .cell
  | [], _, h => by simp at h
  | (n, k₀) :: r, x, h => by
    have ih := @relS_free sc r x
    show List.lookup x ((if (k₀ == NameKind.free && sc.kind == .function && sc.names.lookup n == some .cell) = true then (n, NameKind.cell) else (n, k₀)) :: (r.map _)) = _ ∨ List.lookup x ((if (k₀ == NameKind.free && sc.kind == .function && sc.names.lookup n == some .cell) = true then (n, NameKind.cell) else (n, k₀)) :: (r.map _)) = _
    cases hx : x == n with
    | true =>
      simp only [List.lookup_cons, hx] at h
      cases h
      split <;> simp [List.lookup_cons, hx]
    | false =>
      simp only [List.lookup_cons, hx] at h
      split
      · simp only [List.lookup_cons, hx]; exact ih h
      · simp only [List.lookup_cons, hx]; exact ih h
section
variable {Y : Tx} {X : Cx} {w : Ws} {sc : Scope}
theorem Cok.blkOk (C : Cok Y X w sc) {scope : Scope} {own : List (Str × Nat)} (h : blkC X.N sc scope own = true) : BlkOk X.N X.env.scope scope own := by
  have b := blkOk_by h
  exact ⟨b.kind, b.uniq, b.ix, fun y hy e => C.up y.1 (b.free y hy e), b.own⟩
theorem Cok.blk (C : Cok Y X w sc) (s : Shared) (H : Hp) (scope : Scope) (cl : List (Str × Addr)) (a : Addr) (fp : List Addr) : Cok Y (X.blk s H scope (compEnvC scope cl a X.env) fp) w.mute scope := by
  refine ⟨C.T, C.hN, C.calm, C.hu, takesN, fun x h => ?_, fun x h => ?_, fun x h => ?_, fun x h => ?_, C.blt, C.fns, C.gls⟩
  · unfold visB at h
    split at h
    · rename_i e; exact .inl (lookup_relS_keep (by decide) e)
    · rename_i e; exact .inr (.inl (lookup_relS_keep (by decide) e))
    · rename_i e
      rcases relS_free (sc := X.env.scope) e with q | q
      · exact .inr (.inr q)
      · exact .inr (.inl q)
    · cases h
  · unfold locB at h
    split at h
    · rename_i e; exact ⟨.inl (lookup_relS_keep (by decide) e), .inr (lookup_relS_keep (by decide) e)⟩
    · rename_i e; exact ⟨.inr (lookup_relS_keep (by decide) e), .inl (by simp [e])⟩
    · cases h
  · unfold glB at h
    rw [Bool.and_eq_true] at h
    have h := h.1
    split at h
    · rename_i e; exact lookup_relS_keep (by decide) e
    · cases h
  · rcases h with e | e
    · exact .inl (lookup_relS_keep (by decide) e)
    · rcases relS_free (sc := X.env.scope) e with q | q
      · exact .inr q
      · exact .inl q
theorem okN_of {x : Str} (h : okN x = true) : (x == ("__debug__" : Str)) = false ∧ (x == ("__classdict__" : Str)) = false ∧ x ≠ "__name__" := by
  unfold okN at h
  simp only [Bool.and_eq_true, Bool.not_eq_true'] at h
  refine ⟨h.1.1, h.1.2, fun e => ?_⟩
  rw [e] at h
  simp at h
theorem glB_ok {x : Str} (h : glB sc x = true) : okN x = true := by
  unfold glB at h
  rw [Bool.and_eq_true] at h
  exact h.2
end

theorem kE {X : Cx} {e : Expr} {t t' : TE} (h : PE X e t) (i : ∀ σ H Q, t' σ H Q → t σ H fun x H1 => HB H1 → Q x H1) : PE X e t' := (PE.imp (PE.known h) i)
theorem kT {X : Cx} {e : Expr} {t t' : TT} (h : PT X e t) (i : ∀ σ H Q, t' σ H Q → t σ H fun x H1 => HB H1 → Q x H1) : PT X e t' := (PT.imp (PT.known h) i)
theorem kA {X : Cx} {e : List Expr} {t t' : TA} (h : PA X e t) (i : ∀ σ H Q, t' σ H Q → t σ H fun x H1 => HB H1 → Q x H1) : PA X e t' := (PA.imp (PA.known h) i)
theorem kTs {X : Cx} {e : List Expr} {t t' : TT} (h : PTs X e t) (i : ∀ σ H Q, t' σ H Q → t σ H fun x H1 => HB H1 → Q x H1) : PTs X e t' := ⟨fun pins s σ H Q I hw =>
  thn (h.run pins s σ H _ I (i σ H Q hw)) fun u s' ⟨H', I', q'⟩ => ⟨H', I', q' (Inv.hb I')⟩⟩
theorem kO {X : Cx} {e : Option Expr} {t t' : TO} (h : PO X e t) (i : ∀ σ H Q, t' σ H Q → t σ H fun x H1 => HB H1 → Q x H1) : PO X e t' := ⟨fun pins s σ H Q I hw =>
  thn (h.run pins s σ H _ I (i σ H Q hw)) fun u s' ⟨v, H', I', r, q'⟩ => ⟨v, H', I', r, q' (Inv.hb I')⟩⟩
theorem kW {X : Cx} {e : Expr} {t t' : TT} (h : PW X e t) (i : ∀ σ H Q, t' σ H Q → t σ H fun x H1 => HB H1 → Q x H1) : PW X e t' := ⟨fun wh pins s σ H Q I hw =>
  thn (h.run wh pins s σ H _ I (i σ H Q hw)) fun u s' ⟨H', I', q'⟩ => ⟨H', I', q' (Inv.hb I')⟩⟩

/-! ### readings of lists of expressions -/
def tB' (w : Ws) (k : Bool) (es : EL) : TE := fun σ H Q => ∃ G env, Fresh G H ∧ EnvOk w.T G H σ env ∧ Aft w G σ H Q (evalB w.C k es env)
def tBT (w : Ws) (k : Bool) (es : EL) : TT := fun σ H Q => ∃ G env, Fresh G H ∧ EnvOk w.T G H σ env ∧ AftB w σ H Q ((evalB w.C k es env).bind truth)
def tF' (w : Ws) (es : EL) : TT := fun σ H Q => ∃ G env, Fresh G H ∧ EnvOk w.T G H σ env ∧ AftB w σ H Q (evalT w.C es env)
def tO' (w : Ws) (es : EL) : TO := fun σ H Q => ∃ G env, Fresh G H ∧ EnvOk w.T G H σ env ∧ AftX w σ H Q ((evalL w.C es env).bind optI)
/-- a value, or (m) a tuple that is only unpacked -/
def RepM (T : Wd) (G : Addr → Prop) (H : Hp) : Bool → V → D → Prop
  | false, v, d => Rep T G H v d
  | true, v, d => ∃ p vs ds, v = .ref p ∧ d = .tup ds ∧ SqT T.K H p vs ∧ Reps T G H vs ds
/-- what unpacking a tuple sees -/
theorem RepM.tup {T : Wd} {G : Addr → Prop} {H : Hp} {m : Bool} {v : V} {ds : List D} (r : RepM T G H m v (.tup ds)) : ∃ p vs, v = .ref p ∧ SqT T.K H p vs ∧ Reps T G H vs ds := by
  cases m with
  | false =>
    cases (show Rep T G H v (.tup ds) from r) with
    | tup h g rs => exact ⟨_, _, rfl, h.sq, rs⟩
  | true =>
    obtain ⟨p, vs, ds', h1, h2, h3, h4⟩ := r
    cases h2
    exact ⟨p, vs, h1, h3, h4⟩
theorem RepM.one {T : Wd} {G : Addr → Prop} {H : Hp} {m : Bool} {v : V} {d : D} (r : RepM T G H m v d) (hm : m = false) : Rep T G H v d := by
  subst hm; exact r
/-- ds, walked from H0 on; m: items are only unpacked -/
def WalkD (T : Wd) (G : Addr → Prop) (J : It) (m : Bool) (ds : List D) (H0 : Hp) : Prop :=
  Walk J ds.length (fun H => Evo (Al G H0) H0 H) (fun i H x H' => Ext H H' ∧ ∃ d, ds[i]? = some d ∧ ∀ G' : Addr → Prop, (∀ a, Al G H0 a → G' a) → Fresh G' H → RepM T G' H' m x d)
def tI (w : Ws) (it : IT) : TI := fun σ H R => ∃ G env, Fresh G H ∧ EnvOk w.T G H σ env ∧ AftX w σ H (fun ds H1 => ∀ J, (∀ G', (isRng it = true ∨ G' = G) → WalkD w.T G' J (mustTup it) ds H1) → ds.length ≤ LIM → R J H1) (evalI w.C it env)

/-- an expression's soundness -/
structure Snd (Y : Tx) (e : E) : Prop where
  pe : ∀ {X w sc x}, Cok Y X w sc → mE Y X.N e sc x = true → PE X x (tE w e)
  pt : ∀ {X w sc x}, Cok Y X w sc → mE Y X.N e sc x = true → PT X x (tT w e)
structure SndL (Y : Tx) (es : EL) : Prop where
  pa : ∀ {X w sc xs}, Cok Y X w sc → mL Y X.N es sc xs = true → PA X xs (tL w es)
  pb : ∀ {X w sc xs pos} (k : Bool), Cok Y X w sc → mL Y X.N es sc xs = true → PE X (.BoolOp (if k then BoolOp.And else BoolOp.Or) xs pos) (tB' w k es)
  pw : ∀ {X w sc xs pos} (k : Bool), Cok Y X w sc → mL Y X.N es sc xs = true → PW X (.BoolOp (if k then BoolOp.And else BoolOp.Or) xs pos) (tBT w k es)
  pf : ∀ {X w sc xs}, Cok Y X w sc → mF Y X.N es sc xs = true → PTs X xs (tF' w es)
  po : ∀ {X w sc x}, Cok Y X w sc → mO Y X.N es sc x = true → PO X x (tO' w es)
structure SndI (Y : Tx) (it : IT) : Prop where
  pi : ∀ {X w sc x tg}, Cok Y X w sc → mI Y X.N it sc x = true → (mustTup it = true → ∃ elts k p, tg = .Tuple elts k p) → PI X tg x (tI w it)

/-- an expression whose test is its value's truth -/
theorem pt_of {Y : Tx} {X : Cx} {w : Ws} {sc : Scope} {e : E} {x : Expr} (C : Cok Y X w sc) (h : PE X x (tE w e)) (he : ∀ whole, isTrue x X.env whole = (do let v ← whole; standAt x.pos; holding [v] (truthy v))) : PT X x (tT w e) := by
  refine kT (pt_truth h he) fun σ H Q ⟨G, env, fr, en, q⟩ => ?_
  refine ⟨G, env, fr, en, (AftX.bind q).imp fun d H' e' b h' v r => ?_⟩
  have q' : AftB w σ H' Q (truth d) := h'
  cases ht : truth d with
  | ok k =>
    rw [ht] at q'
    refine ⟨k, ?_, fun b' => q'.ok b'⟩
    have t := tru_of r ht
    rw [C.T] at t
    exact t
  | exc c => exact absurd ht truth_exc
  | bad => rw [ht] at q'; exact q'.elim

theorem chk_ne {α : Type} {b : Bool} {r : R α} {c : Nat} (h : r ≠ .exc c) : chk b r ≠ .exc c := fun e => h (chk_exc e)
theorem ok_ne {α : Type} {a : α} {c : Nat} : (R.ok a) ≠ .exc c := fun h => by cases h
theorem bad_ne {α : Type} {c : Nat} : (R.bad : R α) ≠ .exc c := fun h => by cases h
theorem binop_ne {o : BO} {x y : D} {c : Nat} : binop o x y ≠ .exc c := by
  unfold binop
  split <;> first | exact ok_ne | exact bad_ne | exact chk_ne ok_ne | (split <;> first | exact bad_ne | exact chk_ne ok_ne)
theorem orBad_ne {α : Type} {o : Option α} {c : Nat} : orBad o ≠ .exc c := by
  unfold orBad; split <;> first | exact ok_ne | exact bad_ne
theorem bind_ne {α β : Type} {r : R α} {f : α → R β} {c : Nat} (h : r ≠ .exc c) (h' : ∀ a, f a ≠ .exc c) : r.bind f ≠ .exc c := by
  cases r with
  | ok a => exact h' a
  | exc d => exact fun e => h (by cases (show R.exc d = R.exc c from e); rfl)
  | bad => exact bad_ne
theorem inOne_ne {x y : D} {c : Nat} : inOne x y ≠ .exc c := by
  unfold inOne
  split <;> try first | exact ok_ne | exact bad_ne | exact chk_ne ok_ne
  split <;> try first | exact bad_ne
  split <;> first | exact bad_ne | exact chk_ne ok_ne
theorem isOne_ne {x y : D} {c : Nat} : isOne x y ≠ .exc c := by
  unfold isOne; split <;> first | exact ok_ne | exact bad_ne
theorem ltI_ne {f : Int → Int → Bool} {x y : D} {c : Nat} : ltI f x y ≠ .exc c := by
  unfold ltI; split <;> first | exact ok_ne | exact bad_ne
theorem ltD_ne {x y : D} {c : Nat} : ltD x y ≠ .exc c := by
  unfold ltD
  split <;> try first | exact ok_ne | exact bad_ne
  split <;> first | exact ok_ne | exact bad_ne
theorem cmpop_ne {o : CO} {x y : D} {c : Nat} : cmpop o x y ≠ .exc c := by
  unfold cmpop
  split <;> first | exact ltI_ne | exact ltD_ne | exact chk_ne ok_ne | exact bind_ne isOne_ne fun _ => ok_ne | exact bind_ne inOne_ne fun _ => ok_ne
theorem subD_ne {x y : D} {c : Nat} : subD x y ≠ .exc c := by
  unfold subD
  split <;> first | exact orBad_ne | exact chk_ne orBad_ne | exact bad_ne
theorem slcD_ne {l h : Option Int} {x : D} {c : Nat} : slcD l h x ≠ .exc c := by
  unfold slcD
  split <;> first | exact ok_ne | exact chk_ne ok_ne | exact bad_ne
theorem revD_ne {x : D} {c : Nat} : revD x ≠ .exc c := by
  unfold revD
  split <;> first | exact ok_ne | exact bad_ne
theorem sortD_ne {ds : List D} {c : Nat} : sortD ds ≠ .exc c := by
  unfold sortD
  split <;> try exact ok_ne
  split <;> first | exact ok_ne | exact bad_ne
theorem blt_ne {f : BF} {ds : List D} {c : Nat} : blt f ds ≠ .exc c := by
  unfold blt
  split <;> try first | exact ok_ne | exact bad_ne | exact chk_ne ok_ne | exact sortD_ne
  all_goals split <;> first | exact ok_ne | exact bad_ne | exact chk_ne ok_ne
theorem isT_ne {t : TN} {x : D} {c : Nat} : isT t x ≠ .exc c := by
  unfold isT; split <;> first | exact ok_ne | exact bad_ne
theorem negD_ne {x : D} {c : Nat} : negD x ≠ .exc c := by
  unfold negD; split <;> first | exact ok_ne | exact bad_ne
theorem meth_ne {m : MF} {x : D} {ds : List D} {c : Nat} : meth m x ds ≠ .exc c := by
  unfold meth; split <;> first | exact chk_ne ok_ne | exact bad_ne | (split <;> first | exact bad_ne | exact chk_ne ok_ne)

section
variable {w : Ws} {G : Addr → Prop} {σ : St} {H : Hp} {Q : VK}
/-- an outcome that is no exception -/
theorem got {α : Type} {P : α → Hp → Prop} {r : R α} (h : AftX w σ H P r) (ne : ∀ c, r ≠ .exc c) : ∃ a, r = .ok a ∧ ∀ H', Ext H H' → HB H' → P a H' := by
  cases r with
  | ok a => exact ⟨a, rfl, h⟩
  | exc c => exact absurd rfl (ne c)
  | bad => exact h.elim
end
end Ev

/-! Ev11: the forms of expressions. -/
namespace Ev
open PySem PySem.Spec L2
open PyProof.Rows hiding St
variable {Y : Tx}

theorem and2 {a b : Bool} (h : (a && b) = true) : a = true ∧ b = true := by simpa using h
theorem and3 {a b c : Bool} (h : (a && b && c) = true) : a = true ∧ b = true ∧ c = true := by
  obtain ⟨h, z⟩ := and2 h
  obtain ⟨x, y⟩ := and2 h
  exact ⟨x, y, z⟩
theorem and4 {a b c d : Bool} (h : (a && b && c && d) = true) : a = true ∧ b = true ∧ c = true ∧ d = true := by
  obtain ⟨h, z⟩ := and2 h
  obtain ⟨x, y, w⟩ := and3 h
  exact ⟨x, y, w, z⟩
theorem not_t {a : Bool} (h : (!a) = true) : a = false := by simpa using h
theorem star_cons {e : Expr} {es : List Expr} {env : PySem.Env} (h : isStar e = false) : starEach (e :: es) env = (false, PySem.eval e env) :: starEach es env := by
  cases e <;> first | rfl | (exact Bool.noConfusion (show true = false from h))
theorem mL_nil {N : List Str} {sc : Scope} {xs : List Expr} (h : mL Y N .nil sc xs = true) : xs = [] := by
  cases xs with
  | nil => rfl
  | cons _ _ => exact Bool.noConfusion (show false = true from h)
theorem mL_cons {N : List Str} {e : E} {es : EL} {sc : Scope} {xs : List Expr} (h : mL Y N (.cons e es) sc xs = true) : ∃ x r, xs = x :: r ∧ mE Y N e sc x = true ∧ isStar x = false ∧ mL Y N es sc r = true := by
  cases xs with
  | nil => exact Bool.noConfusion (show false = true from h)
  | cons x r =>
    obtain ⟨a, b, c⟩ := and3 (show (mE Y N e sc x && !isStar x && mL Y N es sc r) = true from h)
    exact ⟨x, r, rfl, a, not_t b, c⟩
theorem back_nostar {N : List Str} {sc : Scope} {pos : Pos} {env : PySem.Env} : ∀ {es : EL} {xs : List Expr}, mL Y N es sc xs = true → (backTo pos (starEach xs env)).any (·.1) = false
  | .nil, xs, h => by rw [mL_nil h]; rfl
  | .cons e es, xs, h => by
    obtain ⟨x, r, rfl, _, s, m⟩ := mL_cons h
    rw [star_cons s]
    exact back_nostar (es := es) m
theorem nomark' {x : Expr} {op : CmpOp} (h : isSet x = false) : behindInMarks op x = false := by
  cases x <;> first | rfl | exact Bool.noConfusion (show true = false from h)
theorem plain_ix {x : Expr} (h : isSl x = false) : PlainIx x := by
  cases x <;> first | (intro _ _; rfl) | exact Bool.noConfusion (show true = false from h)
theorem att_base {x : Expr} {n : Str} {env : PySem.Env} (h : isCall x = false) : attributeBase x n env (PySem.eval x env) = PySem.eval x env := by
  cases x <;> first | rfl | exact Bool.noConfusion (show true = false from h)
theorem no_set {x : Expr} {env : PySem.Env} (h : isSet x = false) (v : Value) : foldedSetIterable x env v = pure v := by
  cases x <;> first | rfl | exact Bool.noConfusion (show true = false from h)

/-! ### names and constants -/
theorem snd_var (i : Nat) : Snd Y (.var i) := by
  have pe : ∀ {X : Cx} {w : Ws} {sc : Scope} {x : Expr}, Cok Y X w sc → mE Y X.N (.var i) sc x = true → PE X x (tE w (.var i)) ∧ ∀ whole, isTrue x X.env whole = (do let v ← whole; standAt x.pos; holding [v] (truthy v)) := by
    intro X w sc x C m
    cases x <;> try exact Bool.noConfusion (show false = true from m)
    rename_i x p
    obtain ⟨a, b, c⟩ := and3 (show (decide (X.N[i]? = some x) && visB sc x && okN x) = true from m)
    obtain ⟨o1, o2, o3⟩ := okN_of c
    refine ⟨kE (pe_var (of_decide_eq_true a) (C.vis _ b) o1 o2) fun σ H Q ⟨G, env, fr, en, h⟩ => ?_, fun _ => rfl⟩
    have h : Aft w G σ H Q (getV env i) := h
    unfold getV at h
    split at h
    · rename_i d e
      obtain ⟨v, h1, h2⟩ := en i d e
      exact ⟨v, h1, fun b => h.ok b v h2⟩
    · exact h.elim
  exact ⟨fun C m => (pe C m).1, fun C m => pt_of C (pe C m).1 (pe C m).2⟩
theorem snd_glb (g : Nat) : Snd Y (.glb g) := by
  have pe : ∀ {X : Cx} {w : Ws} {sc : Scope} {x : Expr}, Cok Y X w sc → mE Y X.N (.glb g) sc x = true → PE X x (tE w (.glb g)) ∧ ∀ whole, isTrue x X.env whole = (do let v ← whole; standAt x.pos; holding [v] (truthy v)) := by
    intro X w sc x C m
    cases x <;> try exact Bool.noConfusion (show false = true from m)
    rename_i x p
    obtain ⟨a, b⟩ := and2 (show (decide (Y.gl g = some x) && glB sc x) = true from m)
    obtain ⟨o1, o2, o3⟩ := okN_of (glB_ok b)
    refine ⟨⟨fun pins s σ H Q I ⟨G, env, fr, en, h⟩ => ?_⟩, fun _ => rfl⟩
    have h : Aft w G σ H Q (orBad (w.C.glob g)) := h
    cases e : w.C.glob g with
    | none => rw [e] at h; exact h.elim
    | some d =>
      rw [e] at h
      obtain ⟨v, u, h1, h2, h3⟩ := C.gls g x (of_decide_eq_true a) d e
      exact (pe_glob (C.gl _ b) h1 h2 o1).run pins s σ H Q I (h.ok (Inv.hb I) v (h3 G H))
  exact ⟨fun C m => (pe C m).1, fun C m => pt_of C (pe C m).1 (pe C m).2⟩
theorem snd_cst (d : D) : Snd Y (.cst d) := by
  have pe : ∀ {X : Cx} {w : Ws} {sc : Scope} {x : Expr}, Cok Y X w sc → mE Y X.N (.cst d) sc x = true → PE X x (tE w (.cst d)) ∧ ∀ whole, isTrue x X.env whole = (do let v ← whole; standAt x.pos; holding [v] (truthy v)) := by
    intro X w sc x C m
    cases x <;> try exact Bool.noConfusion (show false = true from m)
    rename_i c k p
    refine ⟨?_, fun _ => rfl⟩
    replace m : cstB d c = true := m
    cases d <;> cases c <;> try exact Bool.noConfusion (show false = true from m)
    · exact kE pe_non fun σ H Q ⟨G, env, fr, en, h⟩ => fun b => AftX.ok (show Aft w G σ H Q (.ok .non) from h) b _ .non
    · rename_i b c
      have e : b = c := by simpa [cstB] using m
      subst e
      exact kE pe_bl fun σ H Q ⟨G, env, fr, en, h⟩ => fun b' => AftX.ok (show Aft w G σ H Q (.ok (.bl b)) from h) b' _ (.bl b)
    · rename_i b c
      have e : b = c := by simpa [cstB] using m
      subst e
      exact kE pe_int fun σ H Q ⟨G, env, fr, en, h⟩ => fun b' => AftX.ok (show Aft w G σ H Q (.ok (.int b)) from h) b' _ (.int b)
    · rename_i b c
      have e : b = c := by simpa [cstB] using m
      subst e
      exact kE pe_str fun σ H Q ⟨G, env, fr, en, h⟩ => fun b' => AftX.ok (show Aft w G σ H Q (.ok (.str b)) from h) b' _ (.str b)
  exact ⟨fun C m => (pe C m).1, fun C m => pt_of C (pe C m).1 (pe C m).2⟩

/-! ### operators -/
theorem rd_of {w : Ws} {T : Wd} (eT : w.T = T) {G : Addr → Prop} {σ : St} {H : Hp} {Q : VK} {g : D → D → R D} {x y : V} {dx dy : D} (fr : Fresh G H) (rx : Rep w.T G H x dx) (ry : Rep w.T G H y dy) (h : Aft w G σ H Q (g dx dy)) (ne : ∀ c, g dx dy ≠ .exc c) :
    rD T g x y H (fun v H' => HB H' → Q v H') := by
  subst eT
  obtain ⟨d, e, k⟩ := got h ne
  exact ⟨G, dx, dy, d, fr, rx, ry, e, fun v H' ex r b => k H' ex b v r⟩
theorem snd_bin {o : BO} {a b : E} (ha : Snd Y a) (hb : Snd Y b) : Snd Y (.bin o a b) := by
  have pe : ∀ {X : Cx} {w : Ws} {sc : Scope} {x : Expr}, Cok Y X w sc → mE Y X.N (.bin o a b) sc x = true → PE X x (tE w (.bin o a b)) ∧ ∀ whole, isTrue x X.env whole = (do let v ← whole; standAt x.pos; holding [v] (truthy v)) := by
    intro X w sc x C m
    cases x <;> try exact Bool.noConfusion (show false = true from m)
    rename_i l op r p
    obtain ⟨m1, m2, m3⟩ := and3 (show (decide (op = bop o) && mE Y X.N a sc l && mE Y X.N b sc r) = true from m)
    have m1 := of_decide_eq_true m1
    subst m1
    refine ⟨kE (pe_op (op_binD o) (ha.pe C m2) (hb.pe C m3)) fun σ H Q ⟨G, env, fr, en, h⟩ => ?_, fun _ => rfl⟩
    have h : Aft w G σ H Q ((eval w.C a env).bind fun x => (eval w.C b env).bind fun y => binop o x y) := h
    refine tE_bind fr en h fun dx x H1 e1 b1 rx h1 => ?_
    refine tE_bind (fr.ext e1) (en.ext e1) h1 fun dy y H2 e2 b2 ry h2 => ?_
    exact rd_of C.T ((fr.ext e1).ext e2) (rx.ext e2) ry h2 fun _ => binop_ne
  exact ⟨fun C m => (pe C m).1, fun C m => pt_of C (pe C m).1 (pe C m).2⟩
theorem cmp_bl {o : CO} {x y d : D} (h : cmpop o x y = .ok d) : ∃ k, d = .bl k := by
  unfold cmpop at h
  split at h
  · obtain ⟨_, e⟩ := chk_ok h; cases e; exact ⟨_, rfl⟩
  · obtain ⟨_, e⟩ := chk_ok h; cases e; exact ⟨_, rfl⟩
  · unfold ltD at h
    split at h
    · cases h; exact ⟨_, rfl⟩
    · split at h
      · cases h; exact ⟨_, rfl⟩
      · cases h
    · cases h
  · obtain ⟨_, _, _, _, e⟩ := ltI_ok h; exact ⟨_, e⟩
  · obtain ⟨_, _, _, _, e⟩ := ltI_ok h; exact ⟨_, e⟩
  · obtain ⟨_, _, _, _, e⟩ := ltI_ok h; exact ⟨_, e⟩
  all_goals
    first
    | (cases q : isOne x y with
      | ok k => rw [q] at h; cases h; exact ⟨_, rfl⟩
      | exc c => rw [q] at h; cases h
      | bad => rw [q] at h; cases h)
    | (cases q : inOne x y with
      | ok k => rw [q] at h; cases h; exact ⟨_, rfl⟩
      | exc c => rw [q] at h; cases h
      | bad => rw [q] at h; cases h)
/-- a comparison's value, as a test -/
theorem rd_ofB {w : Ws} {T : Wd} (eT : w.T = T) {G : Addr → Prop} {σ : St} {H : Hp} {Q : Bool → Hp → Prop} {o : CO} {x y : V} {dx dy : D} (fr : Fresh G H) (rx : Rep w.T G H x dx) (ry : Rep w.T G H y dy) (h : AftB w σ H Q ((cmpop o dx dy).bind truth)) :
    rD T (cmpop o) x y H (fun v H' => ∃ k, v = .bl k ∧ (HB H' → Q k H')) := by
  subst eT
  obtain ⟨d, e, k⟩ := got (AftX.bind h) fun _ => cmpop_ne
  obtain ⟨j, rfl⟩ := cmp_bl e
  refine ⟨G, dx, dy, .bl j, fr, rx, ry, e, fun v H' ex r => ?_⟩
  cases r
  exact ⟨j, rfl, fun b => AftX.ok (show AftB w σ H' Q (.ok j) from k H' ex b) b⟩
theorem snd_cmp {o : CO} {a b : E} (ha : Snd Y a) (hb : Snd Y b) : Snd Y (.cmp o a b) := by
  have ex : ∀ {X : Cx} {sc : Scope} {x : Expr}, mE Y X.N (.cmp o a b) sc x = true → ∃ l r p, x = .Compare l [cop o] [r] p ∧ mE Y X.N a sc l = true ∧ mE Y X.N b sc r = true ∧ isSet r = false := by
    intro X sc x m
    cases x <;> try exact Bool.noConfusion (show false = true from m)
    rename_i l ops cs p
    match ops, cs, m with
    | [op], [r], m =>
      obtain ⟨m1, m2, m3, m4⟩ := and4 (show (decide (op = cop o) && mE Y X.N a sc l && mE Y X.N b sc r && !isSet r) = true from m)
      have m1 := of_decide_eq_true m1
      subst m1
      exact ⟨l, r, p, rfl, m2, m3, not_t m4⟩
    | [], _, m => exact Bool.noConfusion (show false = true from m)
    | _ :: _ :: _, _, m => exact Bool.noConfusion (show false = true from m)
    | [_], [], m => exact Bool.noConfusion (show false = true from m)
    | [_], _ :: _ :: _, m => exact Bool.noConfusion (show false = true from m)
  refine ⟨fun {X w sc x} C m => ?_, fun {X w sc x} C m => ?_⟩
  · obtain ⟨l, r, p, rfl, m2, m3, m4⟩ := ex m
    refine kE (pe_cmpR (op_cmpD C.hu o) (ha.pe C m2) (hb.pe C m3) (nomark' m4)) fun σ H Q ⟨G, env, fr, en, h⟩ => ?_
    have h : Aft w G σ H Q ((eval w.C a env).bind fun x => (eval w.C b env).bind fun y => cmpop o x y) := h
    refine tE_bind fr en h fun dx x H1 e1 b1 rx h1 => ?_
    refine tE_bind (fr.ext e1) (en.ext e1) h1 fun dy y H2 e2 b2 ry h2 => ?_
    exact rd_of C.T ((fr.ext e1).ext e2) (rx.ext e2) ry h2 fun _ => cmpop_ne
  · obtain ⟨l, r, p, rfl, m2, m3, m4⟩ := ex m
    refine kT (pt_cmpR (op_cmpD C.hu o) (ha.pe C m2) (hb.pe C m3) (nomark' m4)) fun σ H Q ⟨G, env, fr, en, h⟩ => ?_
    have h : AftB w σ H Q (((eval w.C a env).bind fun x => (eval w.C b env).bind fun y => cmpop o x y).bind truth) := h
    rw [R.bind_assoc] at h
    refine tE_bind fr en h fun dx x H1 e1 b1 rx h1 => ?_
    rw [R.bind_assoc] at h1
    refine tE_bind (fr.ext e1) (en.ext e1) h1 fun dy y H2 e2 b2 ry h2 => ?_
    exact rd_ofB C.T ((fr.ext e1).ext e2) (rx.ext e2) ry h2
theorem marks2 {o p : CmpOp} {b c : Expr} (h : isSet c = false) : lastMarks [o, p] [b, c] = false := by
  show behindInMarks p c = false
  exact nomark' h
theorem gotB {α β : Type} {w : Ws} {σ : St} {H : Hp} {P : β → Hp → Prop} {r : R α} {f : α → R β} (h : AftX w σ H P (r.bind f)) (ne : ∀ c, r ≠ .exc c) : ∃ a, r = .ok a ∧ AftX w σ H P (f a) := by
  cases r with
  | ok a => exact ⟨a, rfl, h⟩
  | exc c => exact absurd rfl (ne c)
  | bad => exact h.elim
theorem snd_chn {o p : CO} {a b c : E} (ha : Snd Y a) (hb : Snd Y b) (hc : Snd Y c) : Snd Y (.chn o p a b c) := by
  have ex : ∀ {X : Cx} {sc : Scope} {x : Expr}, mE Y X.N (.chn o p a b c) sc x = true → ∃ l r r' q, x = .Compare l [cop o, cop p] [r, r'] q ∧ mE Y X.N a sc l = true ∧ mE Y X.N b sc r = true ∧ mE Y X.N c sc r' = true ∧ isSet r' = false := by
    intro X sc x m
    cases x <;> try exact Bool.noConfusion (show false = true from m)
    rename_i l ops cs q
    match ops, cs, m with
    | [op, op'], [r, r'], m =>
      obtain ⟨m0, m3, m4⟩ := and3 (show (decide (op = cop o) && decide (op' = cop p) && mE Y X.N a sc l && mE Y X.N b sc r && mE Y X.N c sc r' && !isSet r') = true from m)
      obtain ⟨m1, m1', m2, m2'⟩ := and4 m0
      have m1 := of_decide_eq_true m1
      have m1' := of_decide_eq_true m1'
      subst m1 m1'
      exact ⟨l, r, r', q, rfl, m2, m2', m3, not_t m4⟩
    | [], _, m => exact Bool.noConfusion (show false = true from m)
    | [_], _, m => exact Bool.noConfusion (show false = true from m)
    | _ :: _ :: _ :: _, _, m => exact Bool.noConfusion (show false = true from m)
    | [_, _], [], m => exact Bool.noConfusion (show false = true from m)
    | [_, _], [_], m => exact Bool.noConfusion (show false = true from m)
    | [_, _], _ :: _ :: _ :: _, m => exact Bool.noConfusion (show false = true from m)
  refine ⟨fun {X w sc x} C m => ?_, fun {X w sc x} C m => ?_⟩
  · obtain ⟨l, r, r', q, rfl, m2, m3, m4, m5⟩ := ex m
    refine kE (pe_chain (op_cmpD C.hu o) (op_cmpD C.hu p) (ha.pe C m2) (hb.pe C m3) (hc.pe C m4) (marks2 m5)) fun σ H Q ⟨G, env, fr, en, h⟩ => ?_
    have h : Aft w G σ H Q ((eval w.C a env).bind fun x => (eval w.C b env).bind fun y => (cmpop o x y).bind fun r => (truth r).bind fun k => if k then (eval w.C c env).bind fun z => cmpop p y z else .ok r) := h
    refine tE_bind fr en h fun dx x H1 e1 b1 rx h1 => ?_
    refine tE_bind (fr.ext e1) (en.ext e1) h1 fun dy y H2 e2 b2 ry h2 => ?_
    obtain ⟨d, e, h2⟩ := gotB h2 fun _ => cmpop_ne
    obtain ⟨j, rfl⟩ := cmp_bl e
    rw [← C.T]
    refine ⟨G, dx, dy, .bl j, (fr.ext e1).ext e2, rx.ext e2, ry, e, fun v H3 e3 r => ?_⟩
    cases r
    refine ⟨j, rfl, ?_⟩
    have h3 := h2.ext e3
    cases j with
    | false =>
      show HB H3 → Q (.bl false) H3
      exact fun b => AftX.ok (show Aft w G σ H3 Q (.ok (.bl false)) from h3) b _ (.bl false)
    | true =>
      have h3 : Aft w G σ H3 Q ((eval w.C c env).bind fun z => cmpop p dy z) := h3
      show tE w c σ H3 _
      refine tE_bind (((fr.ext e1).ext e2).ext e3) (((en.ext e1).ext e2).ext e3) h3 fun dz z H4 e4 b4 rz h4 => ?_
      exact rd_of rfl ((((fr.ext e1).ext e2).ext e3).ext e4) ((ry.ext e3).ext e4) rz h4 fun _ => cmpop_ne
  · obtain ⟨l, r, r', q, rfl, m2, m3, m4, m5⟩ := ex m
    refine kT (pt_chain (op_cmpD C.hu o) (op_cmpD C.hu p) (ha.pe C m2) (hb.pe C m3) (hc.pe C m4) (marks2 m5)) fun σ H Q ⟨G, env, fr, en, h⟩ => ?_
    have h : AftB w σ H Q (((eval w.C a env).bind fun x => (eval w.C b env).bind fun y => (cmpop o x y).bind fun r => (truth r).bind fun k => if k then (eval w.C c env).bind fun z => cmpop p y z else .ok r).bind truth) := h
    rw [R.bind_assoc] at h
    refine tE_bind fr en h fun dx x H1 e1 b1 rx h1 => ?_
    rw [R.bind_assoc] at h1
    refine tE_bind (fr.ext e1) (en.ext e1) h1 fun dy y H2 e2 b2 ry h2 => ?_
    rw [R.bind_assoc] at h2
    obtain ⟨d, e, h2⟩ := gotB h2 fun _ => cmpop_ne
    obtain ⟨j, rfl⟩ := cmp_bl e
    rw [← C.T]
    refine ⟨G, dx, dy, .bl j, (fr.ext e1).ext e2, rx.ext e2, ry, e, fun v H3 e3 r => ?_⟩
    cases r
    refine ⟨j, rfl, ?_⟩
    have h3 := h2.ext e3
    cases j with
    | false =>
      show ∃ k, V.bl false = .bl k ∧ _
      exact ⟨false, rfl, fun b => AftX.ok (show AftB w σ H3 Q (.ok false) from h3) b⟩
    | true =>
      have h3 : AftB w σ H3 Q (((eval w.C c env).bind fun z => cmpop p dy z).bind truth) := h3
      rw [R.bind_assoc] at h3
      show tE w c σ H3 _
      refine tE_bind (((fr.ext e1).ext e2).ext e3) (((en.ext e1).ext e2).ext e3) h3 fun dz z H4 e4 b4 rz h4 => ?_
      exact rd_ofB rfl ((((fr.ext e1).ext e2).ext e3).ext e4) ((ry.ext e3).ext e4) rz h4
/-! ### not, and, or, minus, if -/
theorem pt_ife {X : Cx} {c a b : Expr} {pos : Pos} {tA t1 t2 : TT} (hc : PT X c tA) (ha : PT X a t1) (hb : PT X b t2) : PT X (.IfExp c a b pos) (fun σ H Q => tA σ H fun k H1 => if k = true then t1 σ H1 Q else t2 σ H1 Q) := by
  refine ⟨fun pins s σ H Q I h => ?_⟩
  refine isTrue_IfExp (thn (hc.run pins s σ H _ I h) fun k s1 ⟨H1, I1, q1⟩ => ?_)
  cases k with
  | true => exact ha.run pins s1 σ H1 Q I1 q1
  | false => exact hb.run pins s1 σ H1 Q I1 q1
theorem snd_nt {a : E} (ha : Snd Y a) : Snd Y (.nt a) := by
  have ex : ∀ {X : Cx} {sc : Scope} {x : Expr}, mE Y X.N (.nt a) sc x = true → ∃ l p, x = .UnaryOp .Not l p ∧ mE Y X.N a sc l = true := by
    intro X sc x m
    cases x <;> try exact Bool.noConfusion (show false = true from m)
    rename_i op l p
    obtain ⟨m1, m2⟩ := and2 (show (decide (op = UnaryOp.Not) && mE Y X.N a sc l) = true from m)
    have m1 := of_decide_eq_true m1
    subst m1
    exact ⟨l, p, rfl, m2⟩
  refine ⟨fun {X w sc x} C m => ?_, fun {X w sc x} C m => ?_⟩
  · obtain ⟨l, p, rfl, m2⟩ := ex m
    refine kE (pe_notT (ha.pe C m2)) fun σ H Q ⟨G, env, fr, en, h⟩ => ?_
    have h : Aft w G σ H Q ((eval w.C a env).bind fun x => (truth x).bind fun k => .ok (.bl (!k))) := h
    refine tE_bind fr en h fun dx x H1 e1 b1 rx h1 => ?_
    obtain ⟨k, e, h2⟩ := gotB h1 fun _ => truth_exc
    have t := tru_of rx e
    rw [C.T] at t
    exact ⟨k, t, fun b => AftX.ok h2 b _ (.bl _)⟩
  · obtain ⟨l, p, rfl, m2⟩ := ex m
    refine kT (pt_not (ha.pt C m2)) fun σ H Q ⟨G, env, fr, en, h⟩ => ?_
    have h : AftB w σ H Q (((eval w.C a env).bind fun x => (truth x).bind fun k => .ok (.bl (!k))).bind truth) := h
    simp only [R.bind_assoc] at h
    exact tT_bind fr en h fun k H1 e1 b1 h1 b => AftX.ok (show AftB w σ H1 Q (.ok (!k)) from h1) b
theorem snd_neg {a : E} (ha : Snd Y a) : Snd Y (.neg a) := by
  have pe : ∀ {X : Cx} {w : Ws} {sc : Scope} {x : Expr}, Cok Y X w sc → mE Y X.N (.neg a) sc x = true → PE X x (tE w (.neg a)) ∧ ∀ whole, isTrue x X.env whole = (do let v ← whole; standAt x.pos; holding [v] (truthy v)) := by
    intro X w sc x C m
    cases x <;> try exact Bool.noConfusion (show false = true from m)
    rename_i op l p
    obtain ⟨m1, m2⟩ := and2 (show (decide (op = UnaryOp.USub) && mE Y X.N a sc l) = true from m)
    have m1 := of_decide_eq_true m1
    subst m1
    refine ⟨kE (pe_un un_neg (ha.pe C m2)) fun σ H Q ⟨G, env, fr, en, h⟩ => ?_, fun _ => rfl⟩
    have h : Aft w G σ H Q ((eval w.C a env).bind negD) := h
    refine tE_bind fr en h fun dx x H1 e1 b1 rx h1 => ?_
    obtain ⟨d, e, k⟩ := got h1 fun _ => negD_ne
    unfold negD at e
    split at e
    · cases rx
      cases e
      exact ⟨_, rfl, fun b => k H1 (Ext.refl _) b _ (.int _)⟩
    · cases e
  exact ⟨fun C m => (pe C m).1, fun C m => pt_of C (pe C m).1 (pe C m).2⟩
theorem snd_ife {t a b : E} (ht : Snd Y t) (ha : Snd Y a) (hb : Snd Y b) : Snd Y (.ife t a b) := by
  have ex : ∀ {X : Cx} {sc : Scope} {x : Expr}, mE Y X.N (.ife t a b) sc x = true → ∃ l r r' p, x = .IfExp l r r' p ∧ mE Y X.N t sc l = true ∧ mE Y X.N a sc r = true ∧ mE Y X.N b sc r' = true := by
    intro X sc x m
    cases x <;> try exact Bool.noConfusion (show false = true from m)
    rename_i l r r' p
    obtain ⟨m1, m2, m3⟩ := and3 (show (mE Y X.N t sc l && mE Y X.N a sc r && mE Y X.N b sc r') = true from m)
    exact ⟨l, r, r', p, rfl, m1, m2, m3⟩
  refine ⟨fun {X w sc x} C m => ?_, fun {X w sc x} C m => ?_⟩
  · obtain ⟨l, r, r', p, rfl, m1, m2, m3⟩ := ex m
    refine kE (pe_ifExp (ht.pt C m1) (ha.pe C m2) (hb.pe C m3)) fun σ H Q ⟨G, env, fr, en, h⟩ => ?_
    have h : Aft w G σ H Q ((eval w.C t env).bind fun x => (truth x).bind fun k => if k then eval w.C a env else eval w.C b env) := h
    refine tT_bind fr en h fun k H1 e1 b1 h1 => ?_
    cases k with
    | true => exact ⟨G, env, fr.ext e1, en.ext e1, AftX.imp (show Aft w G σ H1 Q (eval w.C a env) from h1) fun _ _ _ _ z v r _ => z v r⟩
    | false => exact ⟨G, env, fr.ext e1, en.ext e1, AftX.imp (show Aft w G σ H1 Q (eval w.C b env) from h1) fun _ _ _ _ z v r _ => z v r⟩
  · obtain ⟨l, r, r', p, rfl, m1, m2, m3⟩ := ex m
    refine kT (pt_ife (ht.pt C m1) (ha.pt C m2) (hb.pt C m3)) fun σ H Q ⟨G, env, fr, en, h⟩ => ?_
    have h : AftB w σ H Q (((eval w.C t env).bind fun x => (truth x).bind fun k => if k then eval w.C a env else eval w.C b env).bind truth) := h
    simp only [R.bind_assoc] at h
    refine tT_bind fr en h fun k H1 e1 b1 h1 => ?_
    cases k with
    | true => exact ⟨G, env, fr.ext e1, en.ext e1, AftX.imp (show AftB w σ H1 Q ((eval w.C a env).bind truth) from h1) fun _ _ _ _ z _ => z⟩
    | false => exact ⟨G, env, fr.ext e1, en.ext e1, AftX.imp (show AftB w σ H1 Q ((eval w.C b env).bind truth) from h1) fun _ _ _ _ z _ => z⟩

/-! ### lists of expressions -/
theorem sndL_nil : SndL Y .nil where
  pa := fun {X w sc xs} C m => by
    rw [mL_nil m]
    exact kA pa_nil fun σ H Q ⟨G, env, fr, en, h⟩ => fun b => AftX.ok (show AftL w G σ H Q (.ok []) from h) b _ .nil
  pb := fun {X w sc xs pos} k C m => ⟨fun _ _ _ _ _ _ ⟨_, _, _, _, h⟩ => False.elim h⟩
  pw := fun {X w sc xs pos} k C m => ⟨fun _ _ _ _ _ _ _ ⟨_, _, _, _, h⟩ => False.elim h⟩
  pf := fun {X w sc xs} C m => by
    cases xs with
    | nil => exact kTs pts_nil fun σ H Q ⟨G, env, fr, en, h⟩ => fun b => AftX.ok (show AftB w σ H Q (.ok true) from h) b
    | cons _ _ => exact Bool.noConfusion (show false = true from m)
  po := fun {X w sc x} C m => by
    cases x with
    | none => exact kO po_none fun σ H Q ⟨G, env, fr, en, h⟩ => fun b => AftX.ok (show AftX w σ H Q (.ok none) from h) b
    | some _ => exact Bool.noConfusion (show false = true from m)
theorem evalB_two {C : Cl} {k : Bool} {e e' : E} {es : EL} {env : Env} : evalB C k (.cons e (.cons e' es)) env = (eval C e env).bind fun d => (truth d).bind fun t => if t == k then evalB C k (.cons e' es) env else .ok d := rfl
theorem sndL_cons {e : E} {es : EL} (he : Snd Y e) (hs : SndL Y es) : SndL Y (.cons e es) where
  pa := fun {X w sc xs} C m => by
    obtain ⟨x, r, rfl, m1, m2, m3⟩ := mL_cons m
    refine kA (pa_cons (he.pe C m1) (hs.pa C m3) (star_cons m2)) fun σ H Q ⟨G, env, fr, en, h⟩ => ?_
    have h : AftL w G σ H Q ((eval w.C e env).bind fun d => (evalL w.C es env).bind fun ds => .ok (d :: ds)) := h
    refine tE_bind fr en h fun dx x H1 e1 b1 rx h1 => ?_
    refine tL_bind (fr.ext e1) (en.ext e1) h1 fun dy y H2 e2 b2 ry h2 => ?_
    exact fun b => AftX.ok h2 b _ (.cons (rx.ext e2) ry)
  pb := fun {X w sc xs pos} k C m => by
    obtain ⟨x, r, rfl, m1, m2, m3⟩ := mL_cons m
    cases es with
    | nil =>
      rw [mL_nil m3]
      exact kE (pe_one (he.pe C m1)) fun σ H Q ⟨G, env, fr, en, h⟩ => ⟨G, env, fr, en, AftX.imp (show Aft w G σ H Q (eval w.C e env) from h) fun _ _ _ _ z v r _ => z v r⟩
    | cons e' es' =>
      obtain ⟨x', r', rfl, m1', m2', m3'⟩ := mL_cons m3
      have rest := hs.pb (pos := pos) k C m3
      cases k with
      | true =>
        refine kE (pe_andT (he.pe C m1) rest) fun σ H Q ⟨G, env, fr, en, h⟩ => ?_
        have h : Aft w G σ H Q ((eval w.C e env).bind fun d => (truth d).bind fun t => if t == true then evalB w.C true (.cons e' es') env else .ok d) := h
        refine tE_bind fr en h fun dx x H1 e1 b1 rx h1 => ?_
        obtain ⟨j, ej, h2⟩ := gotB h1 fun _ => truth_exc
        have t := tru_of rx ej
        rw [C.T] at t
        refine ⟨j, t, ?_⟩
        cases j with
        | true =>
          have h2 : Aft w G σ H1 Q (evalB w.C true (.cons e' es') env) := h2
          exact ⟨G, env, fr.ext e1, en.ext e1, AftX.imp h2 fun _ _ _ _ z v r _ => z v r⟩
        | false =>
          have h2 : Aft w G σ H1 Q (.ok dx) := h2
          show HB H1 → Q x H1
          exact fun b => AftX.ok h2 b x rx
      | false =>
        refine kE (pe_orT (he.pe C m1) rest) fun σ H Q ⟨G, env, fr, en, h⟩ => ?_
        have h : Aft w G σ H Q ((eval w.C e env).bind fun d => (truth d).bind fun t => if t == false then evalB w.C false (.cons e' es') env else .ok d) := h
        refine tE_bind fr en h fun dx x H1 e1 b1 rx h1 => ?_
        obtain ⟨j, ej, h2⟩ := gotB h1 fun _ => truth_exc
        have t := tru_of rx ej
        rw [C.T] at t
        refine ⟨j, t, ?_⟩
        cases j with
        | false =>
          have h2 : Aft w G σ H1 Q (evalB w.C false (.cons e' es') env) := h2
          exact ⟨G, env, fr.ext e1, en.ext e1, AftX.imp h2 fun _ _ _ _ z v r _ => z v r⟩
        | true =>
          have h2 : Aft w G σ H1 Q (.ok dx) := h2
          show HB H1 → Q x H1
          exact fun b => AftX.ok h2 b x rx
  pw := fun {X w sc xs pos} k C m => by
    obtain ⟨x, r, rfl, m1, m2, m3⟩ := mL_cons m
    cases es with
    | nil =>
      rw [mL_nil m3]
      have i : ∀ (σ : St) (H : Hp) (Q : Bool → Hp → Prop), tBT w k (.cons e .nil) σ H Q → tT w e σ H fun x H1 => HB H1 → Q x H1 := fun σ H Q ⟨G, env, fr, en, h⟩ =>
        ⟨G, env, fr, en, AftX.imp (show AftB w σ H Q ((eval w.C e env).bind truth) from h) fun _ _ _ _ z _ => z⟩
      cases k with
      | true => exact kW (pw_and1 (he.pt C m1)) i
      | false => exact kW (pw_or1 (he.pt C m1)) i
    | cons e' es' =>
      obtain ⟨x', r', rfl, m1', m2', m3'⟩ := mL_cons m3
      have rest := hs.pw (pos := pos) k C m3
      cases k with
      | true =>
        refine kW (pw_and (he.pt C m1) rest) fun σ H Q ⟨G, env, fr, en, h⟩ => ?_
        have h : AftB w σ H Q (((eval w.C e env).bind fun d => (truth d).bind fun t => if t == true then evalB w.C true (.cons e' es') env else .ok d).bind truth) := h
        refine ⟨G, env, fr, en, ?_⟩
        cases hd : eval w.C e env with
        | bad => rw [hd] at h; exact h.elim
        | exc c => rw [hd] at h; exact h
        | ok d =>
          rw [hd] at h
          have h : AftB w σ H Q (((truth d).bind fun t => if t == true then evalB w.C true (.cons e' es') env else .ok d).bind truth) := h
          rw [R.bind_assoc] at h
          show AftB w σ H _ (truth d)
          obtain ⟨j, ej, h2⟩ := gotB h fun _ => truth_exc
          rw [ej]
          intro H1 e1 b1
          have h3 := h2.ext e1
          cases j with
          | true => exact ⟨G, env, fr.ext e1, en.ext e1, AftX.imp (show AftB w σ H1 Q ((evalB w.C true (.cons e' es') env).bind truth) from h3) fun _ _ _ _ z _ => z⟩
          | false =>
            have h3 : AftB w σ H1 Q (truth d) := h3
            rw [ej] at h3
            show HB H1 → Q false H1
            exact fun b => AftX.ok h3 b
      | false =>
        refine kW (pw_or (he.pt C m1) rest) fun σ H Q ⟨G, env, fr, en, h⟩ => ?_
        have h : AftB w σ H Q (((eval w.C e env).bind fun d => (truth d).bind fun t => if t == false then evalB w.C false (.cons e' es') env else .ok d).bind truth) := h
        refine ⟨G, env, fr, en, ?_⟩
        cases hd : eval w.C e env with
        | bad => rw [hd] at h; exact h.elim
        | exc c => rw [hd] at h; exact h
        | ok d =>
          rw [hd] at h
          have h : AftB w σ H Q (((truth d).bind fun t => if t == false then evalB w.C false (.cons e' es') env else .ok d).bind truth) := h
          rw [R.bind_assoc] at h
          show AftB w σ H _ (truth d)
          obtain ⟨j, ej, h2⟩ := gotB h fun _ => truth_exc
          rw [ej]
          intro H1 e1 b1
          have h3 := h2.ext e1
          cases j with
          | false => exact ⟨G, env, fr.ext e1, en.ext e1, AftX.imp (show AftB w σ H1 Q ((evalB w.C false (.cons e' es') env).bind truth) from h3) fun _ _ _ _ z _ => z⟩
          | true =>
            have h3 : AftB w σ H1 Q (truth d) := h3
            rw [ej] at h3
            show HB H1 → Q true H1
            exact fun b => AftX.ok h3 b
  pf := fun {X w sc xs} C m => by
    cases es with
    | cons _ _ => exact Bool.noConfusion (show false = true from m)
    | nil =>
      match xs, m with
      | [], m => exact Bool.noConfusion (show false = true from m)
      | _ :: _ :: _, m => exact Bool.noConfusion (show false = true from m)
      | [x], m =>
        exact kTs (pts_one (he.pt C m)) fun σ H Q ⟨G, env, fr, en, h⟩ => ⟨G, env, fr, en, AftX.imp (show AftB w σ H Q ((eval w.C e env).bind truth) from h) fun _ _ _ _ z _ => z⟩
  po := fun {X w sc x} C m => by
    cases es with
    | cons _ _ =>
      cases x <;> exact Bool.noConfusion (show false = true from m)
    | nil =>
      cases x with
      | none => exact Bool.noConfusion (show false = true from m)
      | some x =>
        refine kO (po_some (he.pe C m)) fun σ H Q ⟨G, env, fr, en, h⟩ => ?_
        have h : AftX w σ H Q (((eval w.C e env).bind fun d => (R.ok []).bind fun ds => .ok (d :: ds)).bind optI) := h
        rw [R.bind_assoc] at h
        refine tE_bind fr en h fun dx x H1 e1 b1 rx h1 => ?_
        have h1 : AftX w σ H1 Q (optI [dx]) := h1
        unfold optI at h1
        split at h1
        · rename_i z; cases z
        · rename_i z
          cases z
          cases rx
          exact ⟨_, rfl, fun b => AftX.ok h1 b⟩
        · exact h1.elim
theorem snd_bop {k : Bool} {es : EL} (hs : SndL Y es) : Snd Y (.bop k es) := by
  have ex : ∀ {X : Cx} {sc : Scope} {x : Expr}, mE Y X.N (.bop k es) sc x = true → ∃ l p, x = .BoolOp (if k then BoolOp.And else BoolOp.Or) l p ∧ mL Y X.N es sc l = true := by
    intro X sc x m
    cases x <;> try exact Bool.noConfusion (show false = true from m)
    rename_i op l p
    obtain ⟨m1, m2⟩ := and2 (show (decide (op = if k then BoolOp.And else BoolOp.Or) && mL Y X.N es sc l) = true from m)
    have m1 := of_decide_eq_true m1
    subst m1
    exact ⟨l, p, rfl, m2⟩
  refine ⟨fun {X w sc x} C m => ?_, fun {X w sc x} C m => ?_⟩
  · obtain ⟨l, p, rfl, m2⟩ := ex m
    exact PE.imp (hs.pb k C m2) fun σ H Q h => h
  · obtain ⟨l, p, rfl, m2⟩ := ex m
    exact PT.imp (PW.pt (hs.pw k C m2)) fun σ H Q h => h

/-! ### displays, subscripts, slices -/
theorem tL_bind2 {β : Type} {w : Ws} {G : Addr → Prop} {σ : St} {H : Hp} {env : Env} {e : EL} {f : List D → R β} {P : β → Hp → Prop} {R' : List V → Hp → Prop} (fr : Fresh G H) (en : EnvOk w.T G H σ env) (h : AftX w σ H P ((evalL w.C e env).bind f))
    (k : ∀ d v H', evalL w.C e env = .ok d → Ext H H' → HB H' → Reps w.T G H' v d → AftX w σ H' P (f d) → R' v H') : tL w e σ H R' := by
  refine ⟨G, env, fr, en, ?_⟩
  cases q : evalL w.C e env with
  | ok d =>
    rw [q] at h
    exact fun H' e b v r => k d v H' q e b r (AftX.ext (show AftX w σ H P (f d) from h) e)
  | exc c => rw [q] at h; exact h
  | bad => rw [q] at h; exact h.elim
theorem evalL_len {C : Cl} {N : List Str} {sc : Scope} {env : Env} : ∀ {es : EL} {xs : List Expr} {ds : List D}, mL Y N es sc xs = true → evalL C es env = .ok ds → ds.length = xs.length
  | .nil, xs, ds, m, e => by rw [mL_nil m]; cases (show R.ok [] = .ok ds from e); rfl
  | .cons a es, xs, ds, m, e => by
    obtain ⟨x, r, rfl, _, _, m3⟩ := mL_cons m
    have e : ((eval C a env).bind fun d => (evalL C es env).bind fun ds => .ok (d :: ds)) = .ok ds := e
    cases q : eval C a env with
    | exc c => rw [q] at e; cases e
    | bad => rw [q] at e; cases e
    | ok d =>
      rw [q] at e
      cases q2 : evalL C es env with
      | exc c => rw [q2] at e; cases e
      | bad => rw [q2] at e; cases e
      | ok ds' =>
        rw [q2] at e
        cases e
        simp [evalL_len m3 q2]
theorem snd_tup {es : EL} (hs : SndL Y es) : Snd Y (.tup es) := by
  have pe : ∀ {X : Cx} {w : Ws} {sc : Scope} {x : Expr}, Cok Y X w sc → mE Y X.N (.tup es) sc x = true → PE X x (tE w (.tup es)) ∧ ∀ whole, isTrue x X.env whole = (do let v ← whole; standAt x.pos; holding [v] (truthy v)) := by
    intro X w sc x C m
    cases x <;> try exact Bool.noConfusion (show false = true from m)
    rename_i xs k p
    obtain ⟨m1, m2⟩ := and2 (show (mL Y X.N es sc xs && decide (xs.length < 100)) = true from m)
    have m2 := of_decide_eq_true m2
    refine ⟨kE (pe_tupF (hs.pa C m1)) fun σ H Q ⟨G, env, fr, en, h⟩ => ?_, fun _ => rfl⟩
    have h : Aft w G σ H Q ((evalL w.C es env).bind fun ds => .ok (.tup ds)) := h
    refine tL_bind2 fr en h fun ds xs H1 el e1 b1 rx h1 => ?_
    have l1 := evalL_len m1 el
    have l2 := rx.length
    refine ⟨by rw [sizeLine_eq]; omega, fun p o hd hp b => ?_⟩
    exact h1 _ (Ext.upd hp) b _ (.tup (TupAt.new hd) ((fr.ext e1) p hp) (rx.ext (Ext.upd hp)))
  exact ⟨fun C m => (pe C m).1, fun C m => pt_of C (pe C m).1 (pe C m).2⟩
theorem snd_lst {es : EL} (hs : SndL Y es) : Snd Y (.lst es) := by
  have pe : ∀ {X : Cx} {w : Ws} {sc : Scope} {x : Expr}, Cok Y X w sc → mE Y X.N (.lst es) sc x = true → PE X x (tE w (.lst es)) ∧ ∀ whole, isTrue x X.env whole = (do let v ← whole; standAt x.pos; holding [v] (truthy v)) := by
    intro X w sc x C m
    cases x <;> try exact Bool.noConfusion (show false = true from m)
    rename_i xs p
    obtain ⟨m1, m2⟩ := and2 (show (mL Y X.N es sc xs && decide (xs.length < 100)) = true from m)
    have m2 := of_decide_eq_true m2
    refine ⟨kE (pe_lst (hs.pa C m1)) fun σ H Q ⟨G, env, fr, en, h⟩ => ?_, fun _ => rfl⟩
    have h : Aft w G σ H Q ((evalL w.C es env).bind fun ds => .ok (.lst ds)) := h
    refine tL_bind2 fr en h fun ds xs H1 el e1 b1 rx h1 => ?_
    have l1 := evalL_len m1 el
    have l2 := rx.length
    refine ⟨by rw [sizeLine_eq]; omega, fun p hp b => ?_⟩
    exact h1 _ (Ext.upd hp) b _ (.lst upd_same ((fr.ext e1) p hp) (rx.ext (Ext.upd hp)))
  exact ⟨fun C m => (pe C m).1, fun C m => pt_of C (pe C m).1 (pe C m).2⟩
theorem snd_sub {a b : E} (ha : Snd Y a) (hb : Snd Y b) : Snd Y (.sub a b) := by
  have pe : ∀ {X : Cx} {w : Ws} {sc : Scope} {x : Expr}, Cok Y X w sc → mE Y X.N (.sub a b) sc x = true → PE X x (tE w (.sub a b)) ∧ ∀ whole, isTrue x X.env whole = (do let v ← whole; standAt x.pos; holding [v] (truthy v)) := by
    intro X w sc x C m
    cases x <;> try exact Bool.noConfusion (show false = true from m)
    rename_i l r p
    obtain ⟨m1, m2, m3⟩ := and3 (show (mE Y X.N a sc l && mE Y X.N b sc r && !isSl r) = true from m)
    refine ⟨kE (pe_ix (ix_subD C.hu) (ha.pe C m1) (hb.pe C m2) (plain_ix (not_t m3))) fun σ H Q ⟨G, env, fr, en, h⟩ => ?_, fun _ => rfl⟩
    have h : Aft w G σ H Q ((eval w.C a env).bind fun x => (eval w.C b env).bind fun y => subD x y) := h
    refine tE_bind fr en h fun dx x H1 e1 b1 rx h1 => ?_
    refine tE_bind (fr.ext e1) (en.ext e1) h1 fun dy y H2 e2 b2 ry h2 => ?_
    exact rd_of C.T ((fr.ext e1).ext e2) (rx.ext e2) ry h2 fun _ => subD_ne
  exact ⟨fun C m => (pe C m).1, fun C m => pt_of C (pe C m).1 (pe C m).2⟩
theorem tO_bind {β : Type} {w : Ws} {G : Addr → Prop} {σ : St} {H : Hp} {env : Env} {es : EL} {f : Option Int → R β} {P : β → Hp → Prop} {R' : Option Int → Hp → Prop} (fr : Fresh G H) (en : EnvOk w.T G H σ env) (h : AftX w σ H P (((evalL w.C es env).bind optI).bind f))
    (k : ∀ d H', Ext H H' → AftX w σ H' P (f d) → R' d H') : tO' w es σ H R' :=
  ⟨G, env, fr, en, h.bind.imp fun d H' e b h' => k d H' e h'⟩
theorem optI_ne {l : List D} {c : Nat} : optI l ≠ .exc c := by
  unfold optI; split <;> first | exact ok_ne | exact bad_ne
theorem snd_slc {a : E} {lo hi : EL} (ha : Snd Y a) (hl : SndL Y lo) (hh : SndL Y hi) : Snd Y (.slc a lo hi) := by
  have pe : ∀ {X : Cx} {w : Ws} {sc : Scope} {x : Expr}, Cok Y X w sc → mE Y X.N (.slc a lo hi) sc x = true → PE X x (tE w (.slc a lo hi)) ∧ ∀ whole, isTrue x X.env whole = (do let v ← whole; standAt x.pos; holding [v] (truthy v)) := by
    intro X w sc x C m
    cases x <;> try exact Bool.noConfusion (show false = true from m)
    rename_i l r p
    cases r <;> try exact Bool.noConfusion (show false = true from m)
    rename_i l1 h1 st p1
    cases st with
    | some _ => exact Bool.noConfusion (show false = true from m)
    | none =>
      obtain ⟨m1, m2, m3⟩ := and3 (show (mE Y X.N a sc l && mO Y X.N lo sc l1 && mO Y X.N hi sc h1) = true from m)
      refine ⟨kE (pe_slice sl_slcD (ha.pe C m1) (hl.po C m2) (hh.po C m3)) fun σ H Q ⟨G, env, fr, en, h⟩ => ?_, fun _ => rfl⟩
      have h : Aft w G σ H Q ((eval w.C a env).bind fun x => ((evalL w.C lo env).bind optI).bind fun l' => ((evalL w.C hi env).bind optI).bind fun h' => slcD l' h' x) := h
      refine tE_bind fr en h fun dx x H1 e1 b1 rx h1 => ?_
      refine tO_bind (fr.ext e1) (en.ext e1) h1 fun l H2 e2 h2 => ?_
      refine tO_bind ((fr.ext e1).ext e2) ((en.ext e1).ext e2) h2 fun u H3 e3 h3 => ?_
      obtain ⟨d, e, k⟩ := got h3 fun _ => slcD_ne
      rw [← C.T]
      exact ⟨G, dx, d, ((fr.ext e1).ext e2).ext e3, (rx.ext e2).ext e3, e, fun v H' ex r b => k H' ex b v r⟩
  exact ⟨fun C m => (pe C m).1, fun C m => pt_of C (pe C m).1 (pe C m).2⟩
end Ev

/-! Ev12: calls. -/
namespace Ev
open PySem PySem.Spec L2
open PyProof.Rows hiding St
variable {Y : Tx}

theorem pe_callS0 {X : Cx} {CX : CXT} {k : Nat} {f : Addr} {fd : FuncData} {ps : List Str} {sp : Sp} {E : St → XK} {x : Str} {p pos : Pos} (F : FnOk X.prog X.w X.K X.mg X.base CX k f fd ps sp) (hr : Room k X.A) (hg : Gl X x) (hm : X.mg x = some (.ref f)) (hk : PySem.W.keepIn X.K (.ref f) = true) (hb : Binds X.K fd ps [])
    (hx : ∀ σ, PassesAt CX X σ (E σ)) (hdb : (x == ("__debug__" : Str)) = false) : PE X (.Call (.Name x p) [] [] pos) (tCallS sp E tNil) := by
  refine ⟨fun pins s σ H Q I h => ?_⟩
  refine wpAny_Call_Name_kw (ld_glob I hg hm ?_ hdb)
  exact PySem.W.callWith_K0 I.kIn hk (run_fnS (us := []) F hr hb (hx σ) I .nil h)
theorem sp_of {w : Ws} {G : Addr → Prop} {σ : St} {H : Hp} {Q : VK} {f : Nat} {ds : List D} {vs : List V} (fr : Fresh G H) (r : Reps w.T G H vs ds) (h : Aft w G σ H Q (w.C.call f ds)) :
    spF w.T w.xc (w.C.call f) vs H (fun x H1 => HB H1 → Q x H1) (WE w.W σ) := by
  refine ⟨G, ds, fr, r, ?_⟩
  cases e : w.C.call f ds with
  | ok d => rw [e] at h; exact fun H' ex b v r _ => h H' ex b v r
  | exc c =>
    rw [e] at h
    exact fun H' ex => h H' ex
  | bad => rw [e] at h; exact h
theorem snd_call {f : Nat} {es : EL} (hs : SndL Y es) : Snd Y (.call f es) := by
  have pe : ∀ {X : Cx} {w : Ws} {sc : Scope} {x : Expr}, Cok Y X w sc → mE Y X.N (.call f es) sc x = true → PE X x (tE w (.call f es)) ∧ ∀ whole, isTrue x X.env whole = (do let v ← whole; standAt x.pos; holding [v] (truthy v)) := by
    intro X w sc x C m
    cases x <;> try exact Bool.noConfusion (show false = true from m)
    rename_i fn args kws pos
    cases fn <;> try exact Bool.noConfusion (show false = true from m)
    rename_i x p
    cases kws with
    | cons _ _ => exact Bool.noConfusion (show false = true from m)
    | nil =>
      obtain ⟨m1, m2, m3⟩ := and3 (show (decide (Y.fn f = some x) && glB sc x && mL Y X.N es sc args) = true from m)
      obtain ⟨o1, o2, o3⟩ := okN_of (glB_ok m2)
      obtain ⟨k, a, fd, ps, room, hm, kp, bn, F⟩ := C.fns f x (of_decide_eq_true m1)
      refine ⟨?_, fun _ => rfl⟩
      have i : ∀ (σ : St) (H : Hp) (Q : VK), tE w (.call f es) σ H Q → tCallS (spF w.T w.xc (w.C.call f)) (WE w.W) (tL w es) σ H fun x H1 => HB H1 → Q x H1 := fun σ H Q ⟨G, env, fr, en, h⟩ => by
        have h : Aft w G σ H Q ((evalL w.C es env).bind fun ds => w.C.call f ds) := h
        exact tL_bind fr en h fun ds vs H1 e1 b1 rx h1 => sp_of (fr.ext e1) rx h1
      cases es with
      | nil =>
        rw [mL_nil m3]
        refine kE (pe_callS0 F room (C.gl _ m2) hm kp bn (fun σ => passAt C.tk σ) o1) fun σ H Q h => ?_
        obtain ⟨G, env, fr, en, h⟩ := h
        have h : Aft w G σ H Q (w.C.call f []) := h
        exact sp_of fr .nil h
      | cons e es' =>
        obtain ⟨y, r, rfl, n1, n2, n3⟩ := mL_cons m3
        exact kE (pe_callS F room (C.gl _ m2) hm kp bn (fun σ => passAt C.tk σ) (hs.pa C m3) o1 (star_cons n2) (back_nostar n3)) i
  exact ⟨fun C m => (pe C m).1, fun C m => pt_of C (pe C m).1 (pe C m).2⟩

/-- a built-in's call is told -/
def BOk (f : BF) : Prop := ∀ X : Cx, X.calm = true → X.A.units + 80 < cLine →
  (∃ id, CallR X (.builtin id) (rC (.of X) (blt f)) ∧ bootBuiltins (Str.ofString (bfName f)) = some (.builtin id)) ∨ ∃ id, CallR X (.type id) (rC (.of X) (blt f)) ∧ bootBuiltins (Str.ofString (bfName f)) = some (.type id)
theorem rc_of {w : Ws} {T : Wd} (eT : w.T = T) {G : Addr → Prop} {σ : St} {H : Hp} {Q : VK} {f : BF} {ds : List D} {vs : List V} (fr : Fresh G H) (r : Reps w.T G H vs ds) (h : Aft w G σ H Q (blt f ds)) :
    rC T (blt f) vs H (fun x H1 => HB H1 → Q x H1) := by
  subst eT
  obtain ⟨d, e, k⟩ := got h fun _ => blt_ne
  exact ⟨G, ds, d, fr, r, e, fun v H' ex r b => k H' ex b v r⟩
theorem bN_mem (f : BF) : bfName f ∈ bNames := by cases f <;> decide
theorem snd_bltB {f : BF} {es : EL} (hs : SndL Y es) (hb : BOk f) {X : Cx} {w : Ws} {sc : Scope} {x : Str} {p pos : Pos} {args : List Expr} (C : Cok Y X w sc) (m1 : x = Str.ofString (bfName f)) (m2 : glB sc x = true) (m3 : mL Y X.N es sc args = true) (m4 : args.isEmpty = false) :
    PE X (.Call (.Name x p) args [] pos) (tE w (.blt f es)) := by
  obtain ⟨o1, o2, o3⟩ := okN_of (glB_ok m2)
  have i : ∀ (σ : St) (H : Hp) (Q : VK), tE w (.blt f es) σ H Q → tCB (rC (.of X) (blt f)) (tL w es) σ H fun x H1 => HB H1 → Q x H1 := fun σ H Q ⟨G, env, fr, en, h⟩ => by
    have h : Aft w G σ H Q ((evalL w.C es env).bind fun ds => blt f ds) := h
    exact tL_bind fr en h fun ds vs H1 e1 b1 rx h1 => rc_of C.T (fr.ext e1) rx h1
  have hm : X.mg x = none := by rw [m1]; exact C.blt _ (bN_mem f)
  cases es with
  | nil => rw [mL_nil m3] at m4; cases m4
  | cons e es' =>
    obtain ⟨y, r, rfl, n1, n2, n3⟩ := mL_cons m3
    rcases hb X C.calm C.hu with ⟨id, h1, h2⟩ | ⟨id, h1, h2⟩
    · exact kE (pe_callB h1 (C.gl _ m2) hm (by rw [m1]; exact h2) (hs.pa C m3) o3 o1 (star_cons n2) (back_nostar n3)) i
    · exact kE (pe_callTy h1 (C.gl _ m2) hm (by rw [m1]; exact h2) (hs.pa C m3) o3 o1 (star_cons n2) (back_nostar n3)) i
theorem boot_len' : bootBuiltins "len" = some (.builtin "len") := by decide +kernel
theorem boot_all' : bootBuiltins "all" = some (.builtin "all") := by decide +kernel
theorem boot_any' : bootBuiltins "any" = some (.builtin "any") := by decide +kernel
theorem bok_len : BOk .len := fun X hc hu => .inl ⟨_, call_lenD, boot_len'⟩
theorem bok_srt : BOk .srt := fun X hc hu => .inl ⟨_, call_srtD hc hu, boot_sorted⟩
theorem bok_all : BOk .all := fun X hc hu => .inl ⟨_, call_allD hc, boot_all'⟩
theorem bok_any : BOk .any := fun X hc hu => .inl ⟨_, call_anyD hc, boot_any'⟩
theorem bok_int : BOk .int := fun X hc hu => .inr ⟨_, call_intD, boot_int⟩
theorem bok_lis : BOk .lis := fun X hc hu => .inr ⟨_, call_listD hc, boot_list⟩
theorem bok_tup : BOk .tup := fun X hc hu => .inr ⟨_, call_tupleD, boot_tuple⟩
theorem boot_dict' : bootBuiltins "dict" = some (.type "dict") := by decide +kernel
theorem bok_dic : BOk .dic := fun X hc hu => .inr ⟨_, call_dicD hc hu, boot_dict'⟩
theorem bok_str : BOk .str := fun X hc hu => .inr ⟨_, call_strD, boot_str⟩
theorem bok_mx2 : BOk .mx2 := fun X hc hu => .inl ⟨_, call_mx2D hc, boot_max⟩
theorem bok_mn2 : BOk .mn2 := fun X hc hu => .inl ⟨_, call_mn2D hc, boot_min⟩
theorem bok_mx1 : BOk .mx1 := fun X hc hu => .inl ⟨_, call_mx1D hc hu, boot_max⟩
theorem bok_mn1 : BOk .mn1 := fun X hc hu => .inl ⟨_, call_mn1D hc, boot_min⟩
/-- list(range(n)), tuple(range(n)) -/
theorem rg_len {n : Int} (h : okR n = true) : RgOk 0 n := by
  unfold okR at h
  simp only [Bool.and_eq_true, decide_eq_true_eq] at h
  exact ⟨by omega, by omega, by omega, by omega, by omega⟩
theorem rgV_rep {T : Wd} {G : Addr → Prop} {H : Hp} {n : Int} : Reps T G H (rgV 0 n) (rangeD 0 n.toNat) := by
  unfold rgV rangeD
  rw [Int.sub_zero]
  generalize List.range n.toNat = l
  induction l with
  | nil => exact .nil
  | cons x l ih => exact .cons (.int _) ih
theorem blt_rg {f : BF} {ds : List D} {d : D} (h : blt f ds = .ok d) (hf : f = .lrg ∨ f = .trg) : ∃ n, ds = [.int n] ∧ okR n = true ∧ d = if f = .lrg then .lst (rangeD 0 n.toNat) else .tup (rangeD 0 n.toNat) := by
  rcases hf with rfl | rfl
  · unfold blt at h
    split at h <;> try contradiction
    all_goals (rename_i q; try cases q)
    obtain ⟨a, b⟩ := chk_ok h
    cases b
    exact ⟨_, rfl, a, rfl⟩
  · unfold blt at h
    split at h <;> try contradiction
    all_goals (rename_i q; try cases q)
    obtain ⟨a, b⟩ := chk_ok h
    cases b
    exact ⟨_, rfl, a, rfl⟩
theorem mL_one {N : List Str} {es : EL} {sc : Scope} {as : List Expr} (h : mL Y N es sc as = true) (l : as.length = 1) : ∃ e x, es = .cons e .nil ∧ as = [x] ∧ mE Y N e sc x = true ∧ isStar x = false := by
  cases es with
  | nil => rw [mL_nil h] at l; cases l
  | cons e es =>
    obtain ⟨x, r, rfl, m1, m2, m3⟩ := mL_cons h
    have e : r = [] := by cases r with
      | nil => rfl
      | cons _ _ => simp at l
    subst e
    cases es with
    | nil => exact ⟨_, x, rfl, rfl, m1, m2⟩
    | cons _ _ => exact Bool.noConfusion (show false = true from m3)
theorem call_star {e : Expr} {es : List Expr} {f : Expr} {as : List Expr} {k : List Keyword} {p : Pos} {env : PySem.Env} : starEach (.Call f as k p :: es) env = (false, PySem.eval (.Call f as k p) env) :: starEach es env := rfl
theorem snd_lrg {es : EL} (hs : SndL Y es) {X : Cx} {w : Ws} {sc : Scope} {x y : Str} {p p' pos pos' : Pos} {as : List Expr} (C : Cok Y X w sc) (m1 : x = "list") (m2 : glB sc x = true) (m3 : y = "range") (m4 : glB sc y = true) (m5 : mL Y X.N es sc as = true) (m6 : as.length = 1) :
    PE X (.Call (.Name x p) [.Call (.Name y p') as [] pos'] [] pos) (tE w (.blt .lrg es)) := by
  subst m1 m3
  obtain ⟨e, a, rfl, rfl, n1, n2⟩ := mL_one m5 m6
  have ha : PA X [a] (tL w (.cons e .nil)) := hs.pa C m5
  have hm1 : X.mg "list" = none := C.blt "list" (by decide)
  have hm2 : X.mg "range" = none := C.blt "range" (by decide)
  -- the argument, as an expression of its own
  have hp : PRg X (.Call (.Name "range" p') [a] [] pos') (fun σ H Q => tL w (.cons e .nil) σ H fun vs H1 => ∃ n, vs = [.int n] ∧ Q 0 n H1) := by
    intro pins s σ H Q I h
    refine Call_ (ld_blt I (C.gl _ m4) hm2 boot_range (PyProof.Rows.callWith_type1 (thn (ha.run pos' pins s σ H _ I h) fun us s1 ⟨vs, H1, I1, r1, q1⟩ => ?_) (star_cons n2) rfl))
    obtain ⟨n, rfl, q⟩ := q1
    cases r1 with
    | cons r rr =>
      cases rr
      obtain ⟨t, rfl⟩ := r
      exact call_range_1 ⟨_, 0, n, _, _, _, H1, rfl, IsRange.new _ _ _ _ _ _ _, I1.kept fun b u e => Heap.get?_push_of_some _ e, q⟩
  refine kE (pe_listRg C.calm (C.gl _ m2) hm1 hp) fun σ H Q ⟨G, env, fr, en, h⟩ => ?_
  have h : Aft w G σ H Q ((evalL w.C (.cons e .nil) env).bind fun ds => blt .lrg ds) := h
  refine tL_bind fr en h fun ds vs H1 e1 b1 rx h1 => ?_
  obtain ⟨d, ed, k⟩ := got h1 fun _ => blt_ne
  obtain ⟨n, rfl, okn, rfl⟩ := blt_rg ed (.inl rfl)
  cases rx with
  | cons r rr =>
    cases rr
    cases r
    exact ⟨n, rfl, rg_len okn, fun q hq b => k _ (Ext.upd hq) b _ (.lst upd_same (fr.ext e1 q hq) rgV_rep)⟩
theorem snd_trg {es : EL} (hs : SndL Y es) {X : Cx} {w : Ws} {sc : Scope} {x y : Str} {p p' pos pos' : Pos} {as : List Expr} (C : Cok Y X w sc) (m1 : x = "tuple") (m2 : glB sc x = true) (m3 : y = "range") (m4 : glB sc y = true) (m5 : mL Y X.N es sc as = true) (m6 : as.length = 1) :
    PE X (.Call (.Name x p) [.Call (.Name y p') as [] pos'] [] pos) (tE w (.blt .trg es)) := by
  subst m1 m3
  obtain ⟨e, a, rfl, rfl, n1, n2⟩ := mL_one m5 m6
  have ha : PA X [a] (tL w (.cons e .nil)) := hs.pa C m5
  have hm1 : X.mg "tuple" = none := C.blt "tuple" (by decide)
  have hm2 : X.mg "range" = none := C.blt "range" (by decide)
  have hp : PRg X (.Call (.Name "range" p') [a] [] pos') (fun σ H Q => tL w (.cons e .nil) σ H fun vs H1 => ∃ n, vs = [.int n] ∧ Q 0 n H1) := by
    intro pins s σ H Q I h
    refine Call_ (ld_blt I (C.gl _ m4) hm2 boot_range (PyProof.Rows.callWith_type1 (thn (ha.run pos' pins s σ H _ I h) fun us s1 ⟨vs, H1, I1, r1, q1⟩ => ?_) (star_cons n2) rfl))
    obtain ⟨n, rfl, q⟩ := q1
    cases r1 with
    | cons r rr =>
      cases rr
      obtain ⟨t, rfl⟩ := r
      exact call_range_1 ⟨_, 0, n, _, _, _, H1, rfl, IsRange.new _ _ _ _ _ _ _, I1.kept fun b u e => Heap.get?_push_of_some _ e, q⟩
  refine kE (pe_tupRgF C.calm (C.gl _ m2) hm1 hp) fun σ H Q ⟨G, env, fr, en, h⟩ => ?_
  have h : Aft w G σ H Q ((evalL w.C (.cons e .nil) env).bind fun ds => blt .trg ds) := h
  refine tL_bind fr en h fun ds vs H1 e1 b1 rx h1 => ?_
  obtain ⟨d, ed, k⟩ := got h1 fun _ => blt_ne
  obtain ⟨n, rfl, okn, rfl⟩ := blt_rg ed (.inr rfl)
  cases rx with
  | cons r rr =>
    cases rr
    cases r
    exact ⟨n, rfl, rg_len okn, fun q o hd hq b => k _ (Ext.upd hq) b _ (.tup (TupAt.new hd) (fr.ext e1 q hq) rgV_rep)⟩
theorem blt_sst {ds : List D} {d : D} (h : blt .sst ds = .ok d) : (∃ ns : List Int, ds = [.lst (ns.map .int)] ∧ ns.length ≤ 50 ∧ d = .lst ((dedupI ns).map .int)) ∨
    ∃ (n : List Int) (nss : List (List Int)), ds = [.tup ((n :: nss).map intT)] ∧ n ≠ [] ∧ likeT n.length (n :: nss) = true ∧ nss.length < 60 ∧ d = .lst ((dedT (n :: nss)).map intT) := by
  unfold blt at h
  split at h <;> try contradiction
  all_goals (rename_i q; try cases q)
  · split at h
    · rename_i ns e
      obtain ⟨a, b⟩ := chk_ok h
      cases b
      exact .inl ⟨ns, by rw [ints?_map e], of_decide_eq_true a, rfl⟩
    · cases h
  · split at h
    · rename_i n nss e
      obtain ⟨a, b⟩ := chk_ok h
      cases b
      rw [Bool.and_eq_true] at a
      obtain ⟨e1, e2⟩ := tups?_map e
      exact .inr ⟨n, nss, by rw [e1], e2 n List.mem_cons_self, a.1, of_decide_eq_true a.2, rfl⟩
    · cases h
theorem callR_or {X : Cx} {f : Value} {r r' : List V → Hp → VK → Prop} (h1 : CallR X f r) (h2 : CallR X f r') : CallR X f (fun xs H Q => r xs H Q ∨ r' xs H Q) :=
  fun pins s σ H xs us Q I rr h => h.elim (fun h => h1 pins s σ H xs us Q I rr h) (fun h => h2 pins s σ H xs us Q I rr h)
/-- the tuples of a tuple, with their ints -/
theorem reps_tups {T : Wd} {G : Addr → Prop} {H : Hp} : ∀ {vs : List V} {nss : List (List Int)}, Reps T G H vs (nss.map intT) → ∃ ks : List (Addr × List Int), vs = ks.map (fun p => V.ref p.1) ∧ nss = ks.map (·.2) ∧ ∀ p ∈ ks, G p.1 ∧ TupAt H p.1 (p.2.map V.int)
  | [], [], _ => ⟨[], rfl, rfl, fun _ h => by cases h⟩
  | _, n :: nss, .cons r rs => by
    obtain ⟨ks, e1, e2, h⟩ := reps_tups rs
    cases r with
    | @tup a vs _ ht g rn =>
      have ev := Reps.of_ints rn
      subst ev
      exact ⟨(a, n) :: ks, by rw [e1]; rfl, by rw [e2]; rfl, fun p hp => by
        rcases List.mem_cons.mp hp with rfl | hp
        · exact ⟨g, ht⟩
        · exact h p hp⟩
theorem tups_reps {T : Wd} {G : Addr → Prop} {H : Hp} : ∀ {L : List (Addr × List Int)}, (∀ p ∈ L, G p.1 ∧ TupAt H p.1 (p.2.map V.int)) → Reps T G H (L.map fun p => V.ref p.1) ((L.map (·.2)).map intT)
  | [], _ => .nil
  | p :: L, h => .cons (.tup (h p List.mem_cons_self).2 (h p List.mem_cons_self).1 (Reps.ints _)) (tups_reps fun q hq => h q (List.mem_cons_of_mem _ hq))
theorem snd_sst {es : EL} (hs : SndL Y es) {X : Cx} {w : Ws} {sc : Scope} {x y : Str} {p p' pos pos' : Pos} {as : List Expr} (C : Cok Y X w sc) (m1 : x = "sorted") (m2 : glB sc x = true) (m3 : y = "set") (m4 : glB sc y = true) (m5 : mL Y X.N es sc as = true) (m6 : as.length = 1) :
    PE X (.Call (.Name x p) [.Call (.Name y p') as [] pos'] [] pos) (tE w (.blt .sst es)) := by
  subst m1 m3
  obtain ⟨e, a, rfl, rfl, n1, n2⟩ := mL_one m5 m6
  have ha : PA X [a] (tL w (.cons e .nil)) := hs.pa C m5
  have hm1 : X.mg "sorted" = none := C.blt "sorted" (by decide)
  have hm2 : X.mg "set" = none := C.blt "set" (by decide)
  have h1 := pe_callTy (pos := pos') (p := p') (callR_or (call_setD C.calm) (cr_setOfTT C.calm (by have := C.hu; omega))) (C.gl _ m4) hm2 boot_set ha (by decide) (by decide) (star_cons n2) rfl
  refine kE (pe_callB (callR_or (cr_sortedSet C.calm) (cr_sortedT C.calm)) (C.gl _ m2) hm1 boot_sorted (pa_cons h1 pa_nil)) fun σ H Q ⟨G, env, fr, en, h⟩ => ?_
  have h : Aft w G σ H Q ((evalL w.C (.cons e .nil) env).bind fun ds => blt .sst ds) := h
  refine tL_bind fr en h fun ds vs H1 e1 b1 rx h1 => ?_
  obtain ⟨d, ed, k⟩ := got h1 fun _ => blt_ne
  rcases blt_sst ed with ⟨ns, rfl, hl, rfl⟩ | ⟨n, nss, rfl, hn0, hlk, hl, rfl⟩
  · cases rx with
    | cons r rr =>
      cases rr
      cases r with
      | @lst a vs _ ha g rs =>
        have ev := Reps.of_ints rs
        subst ev
        refine .inl ⟨a, ns, rfl, ha, hl, fun q c hq hc => ?_⟩
        refine .inl ⟨q, _, c, rfl, upd_same, by omega, fun ms p' pw mem len hp b => ?_⟩
        have e2 : ms = dedupI ns := rising_one pw (dedupI_ok ns).1 fun j => by rw [mem j, (dedupI_ok ns).2 j]; simp
        subst e2
        exact k _ ((Ext.upd hq).trans (Ext.upd hp)) b _ (.lst upd_same (((fr.ext e1).ext (Ext.upd hq)) _ hp) (Reps.ints _))
  · cases rx with
    | cons r rr =>
      cases rr
      cases r with
      | @tup a vs _ ha g rs =>
        obtain ⟨ks, ev, en, hk⟩ := reps_tups rs
        subst ev
        have hkl : ks.length = nss.length + 1 := by have := congrArg List.length en; simpa using this.symm
        have bd : ∀ m ∈ n :: nss, m.length = n.length ∧ TS.Bd 64 m := fun m hm => by
          have q := List.all_eq_true.mp hlk m hm
          rw [Bool.and_eq_true, decide_eq_true_eq, List.all_eq_true] at q
          exact ⟨q.1, fun z hz => by have := q.2 z hz; simpa using this⟩
        refine .inr ⟨a, ks, rfl, ha.sq, fun p hp => (hk p hp).2.sq, by omega, fun q L hq l1 l2 => ?_⟩
        have hT : ∀ p ∈ L, G p.1 ∧ TupAt (upd H1 q (SetTO X.prog X.w q L)) p.1 (p.2.map V.int) := fun p hp => ⟨(hk p (l1 p hp)).1, (hk p (l1 p hp)).2.keep (Ext.upd hq p.1)⟩
        have hin : ∀ p ∈ L, p.2 ∈ n :: nss := fun p hp => by rw [en]; exact List.mem_map.mpr ⟨p, l1 p hp, rfl⟩
        refine .inr ⟨q, L, n.length, 64, rfl, upd_same, fun p hp => (hT p hp).2.sq, by cases n with
          | nil => exact absurd rfl hn0
          | cons _ _ => simp, fun p hp => bd _ (hin p hp), fun L' p' pm nd' few pw hp b => ?_⟩
        have e2 : L'.map (·.2) = dedT (n :: nss) := by
          refine risingT_one ?_ (dedT_ok _).1 fun j => ?_
          · refine List.pairwise_map.mpr (List.Pairwise.imp_of_mem (fun {x y} hx hy h => ?_) (pw.and (List.pairwise_map.mp nd')))
            have bx := bd _ (hin x (pm.subset hx))
            have by' := bd _ (hin y (pm.subset hy))
            exact code_ord (by rw [bx.1, by'.1]) bx.2 by'.2 h.1 h.2
          · rw [(dedT_ok _).2 j, (pm.map (·.2)).mem_iff]
            constructor
            · intro hj
              obtain ⟨p, hp, rfl⟩ := List.mem_map.mp hj
              exact hin p hp
            · intro hj
              rw [en] at hj
              obtain ⟨p, hp, rfl⟩ := List.mem_map.mp hj
              exact l2 p hp
        rw [← e2] at k
        refine k _ ((Ext.upd hq).trans (Ext.upd hp)) b _ (.lst upd_same (((fr.ext e1).ext (Ext.upd hq)) _ hp) (tups_reps fun z hz => ?_))
        have := hT z (pm.subset hz)
        exact ⟨this.1, this.2.keep (Ext.upd hp z.1)⟩
theorem snd_blt {f : BF} {es : EL} (hs : SndL Y es) : Snd Y (.blt f es) := by
  have pe : ∀ {X : Cx} {w : Ws} {sc : Scope} {x : Expr}, Cok Y X w sc → mE Y X.N (.blt f es) sc x = true → PE X x (tE w (.blt f es)) ∧ ∀ whole, isTrue x X.env whole = (do let v ← whole; standAt x.pos; holding [v] (truthy v)) := by
    intro X w sc x C m
    cases x <;> try exact Bool.noConfusion (show false = true from m)
    rename_i fn args kws pos
    cases fn <;> try exact Bool.noConfusion (show false = true from m)
    rename_i x p
    cases kws with
    | cons _ _ => exact Bool.noConfusion (show false = true from m)
    | nil =>
      refine ⟨?_, fun _ => rfl⟩
      obtain ⟨a, b, c⟩ := and3 (show (decide (x = Str.ofString (bfName f)) && glB sc x && (match inName f with
        | some z => (match inArg z sc args with
          | some as => mL Y X.N es sc as && decide (as.length = 1)
          | none => false)
        | none => mL Y X.N es sc args && !args.isEmpty && !isDic f)) = true from m)
      have a := of_decide_eq_true a
      have pl : inName f = none → BOk f → PE X (.Call (.Name x p) args [] pos) (tE w (.blt f es)) := fun h hb => by
        rw [h] at c
        obtain ⟨c1, c2, c3⟩ := and3 c
        exact snd_bltB hs hb C a b c1 (not_t c2)
      have sp : ∀ {z : Str}, inName f = some z → ∃ q as q', args = [.Call (.Name z q) as [] q'] ∧ glB sc z = true ∧ mL Y X.N es sc as = true ∧ as.length = 1 := fun {z} h => by
        rw [h] at c
        have c : (match inArg z sc args with
          | some as => mL Y X.N es sc as && decide (as.length = 1)
          | none => false) = true := c
        cases e : inArg z sc args with
        | none => rw [e] at c; cases c
        | some as =>
          rw [e] at c
          obtain ⟨c1, c2⟩ := and2 c
          unfold inArg at e
          split at e
          · rename_i y q as' q'
            cases hb : (decide (y = z) && glB sc y) with
            | false => rw [hb] at e; cases e
            | true =>
              rw [hb] at e
              cases e
              obtain ⟨d1, d2⟩ := and2 hb
              have d1 := of_decide_eq_true d1
              subst d1
              exact ⟨q, _, q', rfl, d2, c1, of_decide_eq_true c2⟩
          · cases e
      cases f
      case len => exact pl rfl bok_len
      case srt => exact pl rfl bok_srt
      case all => exact pl rfl bok_all
      case any => exact pl rfl bok_any
      case int => exact pl rfl bok_int
      case lis => exact pl rfl bok_lis
      case tup => exact pl rfl bok_tup
      case mn2 => exact pl rfl bok_mn2
      case mx2 => exact pl rfl bok_mx2
      case mx1 => exact pl rfl bok_mx1
      case mn1 => exact pl rfl bok_mn1
      case str => exact pl rfl bok_str
      case dic => exact pl rfl bok_dic
      case lrg =>
        obtain ⟨q, as, q', e, g, h1, h2⟩ := sp rfl
        rw [e]
        exact snd_lrg hs C a b rfl g h1 h2
      case trg =>
        obtain ⟨q, as, q', e, g, h1, h2⟩ := sp rfl
        rw [e]
        exact snd_trg hs C a b rfl g h1 h2
      case sst =>
        obtain ⟨q, as, q', e, g, h1, h2⟩ := sp rfl
        rw [e]
        exact snd_sst hs C a b rfl g h1 h2
  exact ⟨fun C m => (pe C m).1, fun C m => pt_of C (pe C m).1 (pe C m).2⟩
end Ev

/-! Ev13: isinstance; iterators; comprehensions; all expressions. -/
namespace Ev
open PySem PySem.Spec L2
open PyProof.Rows hiding St
variable {Y : Tx}

def tyN : D → Option String
  | .non => some "NoneType" | .bl _ => some "bool" | .int _ => some "int" | .str _ => some "str" | .tup _ => some "tuple" | .lst _ => some "list" | _ => none
theorem ty_kit {d : D} {t : TN} {b : Bool} {ty : String} (h : tyN d = some ty) (e : isT t d = .ok b) : kitB ty (tnName t) = some b := by
  cases d <;> cases h <;> cases t <;> cases e <;> decide +kernel
theorem ty_of {X : Cx} {T : Wd} {G : Addr → Prop} {H : Hp} {x : V} {d : D} {t : TN} {b : Bool} (r : Rep T G H x d) (e : isT t d = .ok b) : ∃ ty : String, TyX X.K H x (.type ty) ∧ tyN d = some ty := by
  cases r with
  | non => exact ⟨_, .base .non, rfl⟩
  | bl k => exact ⟨_, .base (.bl _), rfl⟩
  | int k => exact ⟨_, .base (.int _), rfl⟩
  | str k => exact ⟨_, .base (.str _), rfl⟩
  | tup h g r => obtain ⟨o, h, _⟩ := h; exact ⟨_, .fTuple h, rfl⟩
  | lst h g r => exact ⟨_, .base (.lst h), rfl⟩
  | scr h => exact absurd e (by cases t <;> (intro h; cases h))
  | dic h g r => exact absurd e (by cases t <;> (intro h; cases h))
  | tab h => exact absurd e (by cases t <;> (intro h; cases h))
theorem boot_tn (t : TN) : bootBuiltins (Str.ofString (tnName t)) = some (.type (tnName t)) := by
  cases t
  · exact boot_int
  · exact boot_bool
  · exact boot_tuple
  · exact boot_str
  · exact boot_list
theorem tn_mem (t : TN) : tnName t ∈ bNames := by cases t <;> decide
theorem snd_isi {a : E} {t : TN} (ha : Snd Y a) : Snd Y (.isi a t) := by
  have pe : ∀ {X : Cx} {w : Ws} {sc : Scope} {x : Expr}, Cok Y X w sc → mE Y X.N (.isi a t) sc x = true → PE X x (tE w (.isi a t)) ∧ ∀ whole, isTrue x X.env whole = (do let v ← whole; standAt x.pos; holding [v] (truthy v)) := by
    intro X w sc x C m
    cases x <;> try exact Bool.noConfusion (show false = true from m)
    rename_i fn args kws pos
    cases fn <;> try exact Bool.noConfusion (show false = true from m)
    rename_i x p
    rcases kws with _ | ⟨_, _⟩ <;> try exact Bool.noConfusion (show false = true from m)
    rcases args with _ | ⟨e, _ | ⟨z, _ | ⟨_, _⟩⟩⟩ <;> try exact Bool.noConfusion (show false = true from m)
    · cases z <;> try exact Bool.noConfusion (show false = true from m)
      rename_i y q
      obtain ⟨m0, m5, m6⟩ := and3 (show (decide (x = Str.ofString "isinstance") && glB sc x && mE Y X.N a sc e && !isStar e && decide (y = Str.ofString (tnName t)) && glB sc y) = true from m)
      obtain ⟨m1, m2, m3, m4⟩ := and4 m0
      have m1 := of_decide_eq_true m1
      have m5 := of_decide_eq_true m5
      subst m1
      refine ⟨?_, fun _ => rfl⟩
      obtain ⟨o1, o2, o3⟩ := okN_of (glB_ok m2)
      obtain ⟨u1, u2, u3⟩ := okN_of (glB_ok m6)
      have hy : PE X (.Name y q) (tC (.ty (tnName t))) := pe_bltn (C.gl _ m6) (by rw [m5]; exact C.blt _ (tn_mem t)) (by rw [m5]; exact boot_tn t) rfl u3 u1
      refine kE (pe_callB call_isi (C.gl _ m2) (C.blt _ (by decide)) boot_isinstance (pa_cons (ha.pe C m3) (pa_cons hy pa_nil) (star_cons (not_t m4))) o3 o1 (star_cons (not_t m4)) rfl) fun σ H Q ⟨G, env, fr, en, h⟩ => ?_
      have h : Aft w G σ H Q ((eval w.C a env).bind fun x => (isT t x).bind fun k => .ok (.bl k)) := h
      refine tE_bind fr en h fun dx x H1 e1 b1 rx h1 => ?_
      obtain ⟨k, ek, h2⟩ := gotB h1 fun _ => isT_ne
      obtain ⟨ty, h3, h4⟩ := ty_of (X := X) rx ek
      exact ⟨x, .ty (tnName t), .type ty, .type (tnName t), k, rfl, .ty _, h3, kit_ty (ty_kit h4 ek), fun b => AftX.ok h2 b _ (.bl k)⟩
    · cases z <;> exact Bool.noConfusion (show false = true from m)
  exact ⟨fun C m => (pe C m).1, fun C m => pt_of C (pe C m).1 (pe C m).2⟩
theorem snd_isis {a : E} (ha : Snd Y a) : Snd Y (.isis a) := by
  have pe : ∀ {X : Cx} {w : Ws} {sc : Scope} {x : Expr}, Cok Y X w sc → mE Y X.N (.isis a) sc x = true → PE X x (tE w (.isis a)) ∧ ∀ whole, isTrue x X.env whole = (do let v ← whole; standAt x.pos; holding [v] (truthy v)) := by
    intro X w sc x C m
    cases x <;> try exact Bool.noConfusion (show false = true from m)
    rename_i fn args kws pos
    cases fn <;> try exact Bool.noConfusion (show false = true from m)
    rename_i x p
    rcases kws with _ | ⟨_, _⟩ <;> try exact Bool.noConfusion (show false = true from m)
    rcases args with _ | ⟨e, _ | ⟨z, _ | ⟨_, _⟩⟩⟩ <;> try exact Bool.noConfusion (show false = true from m)
    · cases z <;> try exact Bool.noConfusion (show false = true from m)
      rename_i es k0 q0
      rcases es with _ | ⟨z1, _ | ⟨z2, _ | ⟨_, _⟩⟩⟩ <;> try exact Bool.noConfusion (show false = true from m)
      · cases z1 <;> exact Bool.noConfusion (show false = true from m)
      · cases z1 <;> try exact Bool.noConfusion (show false = true from m)
        cases z2 <;> try exact Bool.noConfusion (show false = true from m)
        rename_i y q z q'
        obtain ⟨m0, m7, m8⟩ := and3 (show (decide (x = Str.ofString "isinstance") && glB sc x && mE Y X.N a sc e && !isStar e && decide (y = Str.ofString "int") && glB sc y && decide (z = Str.ofString "str") && glB sc z) = true from m)
        obtain ⟨m0, m5, m6⟩ := and3 m0
        obtain ⟨m1, m2, m3, m4⟩ := and4 m0
        have m1 := of_decide_eq_true m1
        have m5 := of_decide_eq_true m5
        have m7 := of_decide_eq_true m7
        subst m1 m5 m7
        refine ⟨?_, fun _ => rfl⟩
        obtain ⟨o1, o2, o3⟩ := okN_of (glB_ok m2)
        have hy : PE X (.Name "int" q) (tC (.ty "int")) := pe_bltn (C.gl _ m6) (C.blt _ (by decide)) boot_int rfl (by decide) (by decide)
        have hz : PE X (.Name "str" q') (tC (.ty "str")) := pe_bltn (C.gl _ m8) (C.blt _ (by decide)) boot_str rfl (by decide) (by decide)
        have ht := pe_tup (x1 := k0) (pos := q0) (pa_cons hy (pa_cons hz pa_nil))
        refine kE (pe_callB call_isiT (C.gl _ m2) (C.blt _ (by decide)) boot_isinstance (pa_cons (ha.pe C m3) (pa_cons ht pa_nil) (star_cons (not_t m4))) o3 o1 (star_cons (not_t m4)) rfl) fun σ H Q ⟨G, env, fr, en, h⟩ => ?_
        have h : Aft w G σ H Q ((eval w.C a env).bind fun x => (isT .int x).bind fun k => (isT .str x).bind fun j => .ok (.bl (k || j))) := h
        refine tE_bind fr en h fun dx x H1 e1 b1 rx h1 => ?_
        obtain ⟨k, ek, h2⟩ := gotB h1 fun _ => isT_ne
        obtain ⟨j, ej, h2⟩ := gotB h2 fun _ => isT_ne
        refine ⟨by show 2 ≤ sizeLine; rw [sizeLine_eq]; omega, fun tp htp => ?_⟩
        have rx2 := rx.ext (Ext.upd (o := .tup [.ty "int", .ty "str"]) htp)
        obtain ⟨ty, h3, h4⟩ := ty_of (X := X) rx2 ek
        refine ⟨x, tp, [.ty "int", .ty "str"], .type ty, [.type "int", .type "str"], k || j, rfl, upd_same, .cons (.ty _) (.cons (.ty _) .nil), h3, ?_, fun b => AftX.ok (AftX.ext h2 (Ext.upd htp)) b _ (.bl _)⟩
        refine kitAny_cons (kit_ty (ty_kit h4 ek)) (fun hk => ?_) fun hk => by rw [hk]; rfl
        rw [hk, Bool.false_or]
        exact kitAny_cons (kit_ty (ty_kit h4 ej)) (fun hj => by rw [hj]; rfl) id
      · cases z1 <;> first | exact Bool.noConfusion (show false = true from m) | (cases z2 <;> exact Bool.noConfusion (show false = true from m))
    · cases z <;> first | exact Bool.noConfusion (show false = true from m) | (rename_i es _ _; rcases es with _ | ⟨z1, _ | ⟨z2, _ | ⟨_, _⟩⟩⟩ <;> first | exact Bool.noConfusion (show false = true from m) | (cases z1 <;> first | exact Bool.noConfusion (show false = true from m) | (cases z2 <;> exact Bool.noConfusion (show false = true from m))))
  exact ⟨fun C m => (pe C m).1, fun C m => pt_of C (pe C m).1 (pe C m).2⟩
end Ev

/-! Ev14: targets; iterators. -/
namespace Ev
open PySem PySem.Spec L2
open PyProof.Rows hiding St
variable {Y : Tx}

def setSt : List Nat → List V → St → St
  | i :: is, v :: vs, σ => setSt is vs (σ.set i (some v))
  | _, _, σ => σ
def idx : TG → List Nat
  | .one i => [i]
  | .tup is => is
def gTgt (K : PySem.W.Frag) : TG → L2.TG
  | .one i => gName i
  | .tup is => gTup K is.length (fun vs σ H Q => vs.length = is.length ∧ Q (setSt is vs σ) H)
theorem setSt_len : ∀ (is : List Nat) (vs : List V) (σ : St), (setSt is vs σ).length = σ.length
  | [], _, _ => rfl
  | _ :: _, [], _ => rfl
  | i :: is, v :: vs, σ => by
    show (setSt is vs (σ.set i (some v))).length = _
    rw [setSt_len is vs, List.length_set]
theorem wipe_get (σ : St) : ∀ (vs : List Nat) (j : Nat), (wipe σ vs)[j]? = if j ∈ vs then (σ[j]?).map (fun _ => none) else σ[j]?
  | [], j => by simp [wipe]
  | v :: vs, j => by
    unfold wipe
    rw [List.getElem?_set, wipe_length, wipe_get σ vs j]
    by_cases h : v = j
    · subst h
      simp only [if_true, List.mem_cons, true_or, if_true]
      by_cases hl : v < σ.length
      · simp [hl]
      · simp [hl]
    · have h' : ¬ j = v := fun e => h e.symm
      simp only [if_neg h, List.mem_cons, h', false_or]
theorem wipe_set {σ : St} {vs : List Nat} {i : Nat} {a : Option V} (h : i ∈ vs) : wipe (σ.set i a) vs = wipe σ vs := by
  apply List.ext_getElem?
  intro j
  rw [wipe_get, wipe_get, List.getElem?_set]
  by_cases e : i = j
  · subst e
    simp only [h, if_true]
    by_cases hl : i < σ.length
    · simp [hl]
    · simp [hl]
  · simp only [if_neg e]
theorem wipe_setSt {vs : List Nat} : ∀ (is : List Nat) (xs : List V) (σ : St), (∀ i ∈ is, i ∈ vs) → wipe (setSt is xs σ) vs = wipe σ vs
  | [], _, _, _ => rfl
  | _ :: _, [], _, _ => rfl
  | i :: is, v :: xs, σ, h => by
    show wipe (setSt is xs (σ.set i (some v))) vs = _
    rw [wipe_setSt is xs _ fun j hj => h j (List.mem_cons_of_mem _ hj), wipe_set (h i List.mem_cons_self)]
theorem wipe_wipe {σ : St} {vs : List Nat} : wipe (wipe σ vs) vs = wipe σ vs := by
  apply List.ext_getElem?
  intro j
  rw [wipe_get, wipe_get]
  split
  · cases σ[j]? <;> rfl
  · rfl
section
variable {T : Wd} {G : Addr → Prop} {H : Hp}
theorem setAll_ok : ∀ (is : List Nat) (vs : List V) (ds : List D) (σ : St) (env : Env), Reps T G H vs ds → ds.length = is.length → (∀ i ∈ is, i < σ.length) →
    (∀ (i : Nat) (d : D), i ∉ is → env[i]? = some (some d) → ∃ v : V, σ[i]? = some (some v) ∧ Rep T G H v d) → EnvOk T G H (setSt is vs σ) (setAll is ds env)
  | [], _, [], σ, env, .nil, _, _, k => fun i d e => k i d (by simp) e
  | i :: is, _, _, σ, env, .cons (v := v) (d := d) (vs := vs) (ds := ds) r rs, hl, hi, k => by
    refine setAll_ok is vs ds (σ.set i (some v)) (env.set i (some d)) rs (by simpa using hl) (fun j hj => by rw [List.length_set]; exact hi j (List.mem_cons_of_mem _ hj)) fun j d' hj e => ?_
    have hil := hi i List.mem_cons_self
    by_cases h : i = j
    · subst h
      rw [List.getElem?_set] at e
      simp only [if_true] at e
      split at e
      · cases e
        exact ⟨v, by simp [hil], r⟩
      · cases e
    · rw [List.getElem?_set_ne h] at e
      obtain ⟨v', h1, h2⟩ := k j d' (by simp only [List.mem_cons, not_or]; exact ⟨fun q => h q.symm, hj⟩) e
      exact ⟨v', by rw [List.getElem?_set_ne h]; exact h1, h2⟩
  | _ :: _, _, [], _, _, .nil, hl, _, _ => by simp at hl
/-- a target takes a value -/
theorem tgt_ok {tg : TG} {m : Bool} {v : V} {d : D} {σ : St} {env env' : Env} {Q : St → Hp → Prop} (hm : m = true → isTupG tg = true) (r : RepM T G H m v d) (e : setT tg d env = .ok env') (hi : ∀ i ∈ idx tg, i < σ.length)
    (k : ∀ (i : Nat) (d : D), i ∉ idx tg → env[i]? = some (some d) → ∃ v : V, σ[i]? = some (some v) ∧ Rep T G H v d)
    (h : ∀ σ', EnvOk T G H σ' env' → (∀ vs, (∀ i ∈ idx tg, i ∈ vs) → wipe σ' vs = wipe σ vs) → σ'.length = σ.length → Q σ' H) : gTgt T.K tg v σ H Q := by
  cases tg with
  | one i =>
    cases (show R.ok (env.set i (some d)) = .ok env' from e)
    have r := r.one (by cases m with
      | false => rfl
      | true => exact absurd (hm rfl) (by simp [isTupG]))
    refine h _ (setAll_ok [i] [v] [d] σ env (.cons r .nil) rfl hi k) (fun vs hv => wipe_setSt [i] [v] σ hv) (setSt_len [i] [v] σ)
  | tup is =>
    cases d <;> try (exact absurd (show (R.bad : R Env) = .ok env' from e) (by intro q; cases q))
    rename_i ds
    obtain ⟨a, b⟩ := chk_ok (show chk (decide (ds.length = is.length)) (.ok (setAll is ds env)) = .ok env' from e)
    have a := of_decide_eq_true a
    cases b
    obtain ⟨p, vs, rfl, hp, rs⟩ := r.tup
    have hl := rs.length
    exact ⟨p, vs, rfl, hp, by rw [hl, a], by rw [hl, a], h _ (setAll_ok is vs ds σ env rs a hi k) (fun us hv => wipe_setSt is vs σ hv) (setSt_len is vs σ)⟩
end
theorem tgB_ok {N : List Str} {sc : Scope} {i : Nat} {x : Str} (h : tgB N sc i x = true) : N[i]? = some x ∧ locB sc x = true ∧ okN x = true := by
  obtain ⟨a, b, c⟩ := and3 h
  exact ⟨of_decide_eq_true a, b, c⟩
theorem tgM_cons {N : List Str} {sc : Scope} {is : List Nat} {es : List Expr} (h : tgM N sc is es = true) : (is = [] ∧ es = []) ∨ ∃ i is' x p es', is = i :: is' ∧ es = .Name x p :: es' ∧ tgB N sc i x = true ∧ tgM N sc is' es' = true := by
  cases is with
  | nil =>
    cases es with
    | nil => exact .inl ⟨rfl, rfl⟩
    | cons _ _ => exact Bool.noConfusion (show false = true from h)
  | cons i is =>
    cases es with
    | nil => exact Bool.noConfusion (show false = true from h)
    | cons e es =>
      cases e <;> try exact Bool.noConfusion (show false = true from h)
      obtain ⟨a, b⟩ := and2 h
      exact .inr ⟨_, _, _, _, _, rfl, rfl, a, b⟩
theorem tgM_ix {N : List Str} {sc : Scope} : ∀ {is : List Nat} {es : List Expr}, tgM N sc is es = true → ∀ i ∈ is, i < N.length
  | [], _, _, i, hi => by simp at hi
  | j :: is, es, h, i, hi => by
    rcases tgM_cons h with ⟨q, _⟩ | ⟨i', is', x, p, es', e1, e2, h1, h2⟩
    · cases q
    · cases e1
      rcases List.mem_cons.mp hi with rfl | hi
      · exact (List.getElem?_eq_some_iff.mp (tgB_ok h1).1).1
      · exact tgM_ix h2 i hi
theorem tg_ix {N : List Str} {sc : Scope} {tg : TG} {t : Expr} (h : mTG N sc tg t = true) : ∀ i ∈ idx tg, i < N.length := by
  cases tg with
  | one i =>
    cases t <;> try exact Bool.noConfusion (show false = true from h)
    intro j hj
    simp only [idx, List.mem_singleton] at hj
    subst hj
    exact (List.getElem?_eq_some_iff.mp (tgB_ok h).1).1
  | tup is =>
    cases t <;> try exact Bool.noConfusion (show false = true from h)
    exact tgM_ix h
theorem pgs_names {X : Cx} {w : Ws} {sc : Scope} (C : Cok Y X w sc) : ∀ {is : List Nat} {es : List Expr}, tgM X.N sc is es = true →
    PGs X es (fun vs σ H Q => vs.length = is.length ∧ Q (setSt is vs σ) H) ∧ (assignEach es X.env).length = is.length ∧ (assignEach es X.env).findIdx? (·.1) = none
  | [], es, h => by
    rcases tgM_cons h with ⟨_, rfl⟩ | ⟨i', is', x, p, es', e1, _⟩
    · exact ⟨⟨fun pins s σ H vs us Q I r q => pgs_nil.run pins s σ H vs us Q I r ⟨List.eq_nil_of_length_eq_zero q.1, by
        have e := List.eq_nil_of_length_eq_zero q.1
        subst e
        exact q.2⟩⟩, rfl, rfl⟩
    · cases e1
  | j :: is, es, h => by
    rcases tgM_cons h with ⟨q, _⟩ | ⟨i', is', x, p, es', e1, e2, h1, h2⟩
    · cases q
    · cases e1
      subst e2
      obtain ⟨a, b, c⟩ := tgB_ok h1
      obtain ⟨l1, l2⟩ := C.loc _ b
      obtain ⟨g, n, f⟩ := pgs_names C h2
      refine ⟨⟨fun pins s σ H vs us Q I r q => (pgs_cons (pg_name (pos := p) C.hN a l1 l2) g).run pins s σ H vs us Q I r ?_⟩, ?_, ?_⟩
      · cases vs with
        | nil => exact absurd q.1 (by simp)
        | cons v vs => exact ⟨v, vs, rfl, by simpa using q.1, q.2⟩
      · show (assignEach es' X.env).length + 1 = _
        rw [n]; rfl
      · show ((false, _) :: assignEach es' X.env).findIdx? (·.1) = none
        rw [List.findIdx?_cons, f]
        rfl
theorem pg_tgt {X : Cx} {w : Ws} {sc : Scope} (C : Cok Y X w sc) {tg : TG} {t : Expr} (h : mTG X.N sc tg t = true) : PG X t (gTgt X.K tg) := by
  cases tg with
  | one i =>
    cases t <;> try exact Bool.noConfusion (show false = true from h)
    obtain ⟨a, b, c⟩ := tgB_ok h
    obtain ⟨l1, l2⟩ := C.loc _ b
    exact pg_name C.hN a l1 l2
  | tup is =>
    cases t <;> try exact Bool.noConfusion (show false = true from h)
    obtain ⟨g, n, f⟩ := pgs_names C h
    exact pg_tup C.calm g n f
end Ev

/-! Ev15: iterators, comprehensions, all expressions. -/
namespace Ev
open PySem PySem.Spec L2
open PyProof.Rows hiding St
variable {Y : Tx}

section
variable {T : Wd} {G : Addr → Prop} {H0 : Hp}
theorem al_some {a : Addr} {o : HO} (g : G a) (h : H0 a = some o) : Al G H0 a := ⟨g, by rw [h]; simp⟩
theorem walkD_lst {a : Addr} {vs : List V} {ds : List D} (h : H0 a = some (.lst vs)) (g : G a) (r : Reps T G H0 vs ds) : WalkD T G (Itl T.K a) false ds H0 := by
  unfold WalkD
  rw [← r.length]
  refine walk_list.mono (fun H e => SqL.of (e.keep _ _ (al_some g h) h)) fun i H x H' _ e y => ?_
  obtain ⟨e1, e2⟩ := y
  subst e1
  obtain ⟨d, h1, h2⟩ := (r.al).getV e2
  exact ⟨Ext.refl _, d, h1, fun G' i _ => Rep.imp i (Rep.evo e h2)⟩
theorem walkD_tup {a : Addr} {vs : List V} {ds : List D} (h : TupAt H0 a vs) (g : G a) (r : Reps T G H0 vs ds) : WalkD T G (Itt T.K a) false ds H0 := by
  unfold WalkD
  rw [← r.length]
  refine walk_tup.mono (fun H e => (h.keep fun o q => e.keep _ o ⟨g, h.here⟩ q).sq) fun i H x H' _ e y => ?_
  obtain ⟨e1, e2⟩ := y
  subst e1
  obtain ⟨d, h1, h2⟩ := (r.al).getV e2
  exact ⟨Ext.refl _, d, h1, fun G' i _ => Rep.imp i (Rep.evo e h2)⟩
theorem rangeD_len {lo : Int} {n : Nat} : (rangeD lo n).length = n := by unfold rangeD; simp
theorem walkD_range {lo : Int} {n : Nat} : WalkD T G (Itr lo n) false (rangeD lo n) H0 := by
  unfold WalkD
  rw [rangeD_len]
  refine walk_range.mono (fun _ _ => trivial) fun i H x H' hi _ y => ?_
  obtain ⟨e1, e2⟩ := y
  subst e1 e2
  exact ⟨Ext.refl _, .int (lo + (i : Nat)), by unfold rangeD; simp [hi], fun G' _ _ => .int _⟩
theorem walkD_str {z : Str} : WalkD T G (Its z) false (z.cps.toList.map fun c => .str ⟨#[c]⟩) H0 := by
  unfold WalkD
  rw [List.length_map, Array.length_toList]
  refine walk_str.mono (fun _ _ => trivial) fun i H x H' hi _ y => ?_
  obtain ⟨e1, c, e2, e3⟩ := y
  subst e1 e3
  exact ⟨Ext.refl _, .str ⟨#[c]⟩, by simp [e2], fun G' _ _ => .str _⟩
theorem rep_pair {G' : Addr → Prop} {H H' : Hp} {p : Addr} {x y : V} {dx dy : D} (fr : Fresh G' H) (hp : H p = none) (e : H' = upd H p (.tup [x, y])) (rx : Rep T G' H x dx) (ry : Rep T G' H y dy) : RepM T G' H' true (.ref p) (.tup [dx, dy]) := by
  subst e
  exact ⟨p, _, _, rfl, rfl, SqT.of upd_same, .cons (rx.ext (Ext.upd hp)) (.cons (ry.ext (Ext.upd hp)) .nil)⟩
theorem enumL_len {ds : List D} : (enumL ds).length = ds.length := by unfold enumL; simp
theorem walkD_enum {a : Addr} {vs : List V} {ds : List D} (h : H0 a = some (.lst vs)) (g : G a) (r : Reps T G H0 vs ds) : WalkD T G (Ite T.K a) true (enumL ds) H0 := by
  unfold WalkD
  rw [enumL_len, ← r.length]
  refine walk_enum.mono (fun H e => SqL.of (e.keep _ _ (al_some g h) h)) fun i H x H' _ e y => ?_
  obtain ⟨p, u, v, e1, e2, e3, e4, e5⟩ := y
  cases e4
  obtain ⟨d, h1, h2⟩ := (r.al).getV e5
  refine ⟨by rw [e3]; exact Ext.upd e2, .tup [.int (i : Nat), d], by unfold enumL; simp [h1], fun G' gi fr => ?_⟩
  rw [e1]
  exact rep_pair fr e2 e3 (.int _) (Rep.imp gi (Rep.evo e h2))
theorem walk_enumT {K : PySem.W.Frag} {a : Addr} {xs : List V} : Walk (Itet K a) xs.length (fun H => SqT K H a xs) (YPair (fun i => some (.int (i : Nat))) (fun i => xs[i]?)) := by
  refine ⟨fun i _ hi q => ?_, fun _ q => ⟨xs, q, rfl⟩, fun i H v H' _ q y => ?_⟩
  · exact ⟨xs, xs[i], q, by simp [hi]⟩
  · obtain ⟨T, x, h1, h2, h3, h4⟩ := y
    exact ⟨T, .int (i : Nat), x, h1, h2, h3, rfl, h4 xs q⟩
theorem walkD_enumT {a : Addr} {vs : List V} {ds : List D} (h : TupAt H0 a vs) (g : G a) (r : Reps T G H0 vs ds) : WalkD T G (Itet T.K a) true (enumL ds) H0 := by
  unfold WalkD
  rw [enumL_len, ← r.length]
  refine walk_enumT.mono (fun H e => (h.keep fun o q => e.keep _ o ⟨g, h.here⟩ q).sq) fun i H x H' _ e y => ?_
  obtain ⟨p, u, v, e1, e2, e3, e4, e5⟩ := y
  cases e4
  obtain ⟨d, h1, h2⟩ := (r.al).getV e5
  refine ⟨by rw [e3]; exact Ext.upd e2, .tup [.int (i : Nat), d], by unfold enumL; simp [h1], fun G' gi fr => ?_⟩
  rw [e1]
  exact rep_pair fr e2 e3 (.int _) (Rep.imp gi (Rep.evo e h2))
theorem zipL_len {xs ys : List D} : (zipL xs ys).length = min xs.length ys.length := by unfold zipL; simp
theorem zipL_get {xs ys : List D} {i : Nat} {x y : D} (h1 : xs[i]? = some x) (h2 : ys[i]? = some y) : (zipL xs ys)[i]? = some (.tup [x, y]) := by
  unfold zipL
  have e : (xs.zip ys)[i]? = some (x, y) := List.getElem?_zip_eq_some.mpr ⟨h1, h2⟩
  rw [List.getElem?_map, e]
  rfl
theorem walkD_zip {a b : Addr} {vs us : List V} {ds es : List D} (h : H0 a = some (.lst vs)) (g : G a) (r : Reps T G H0 vs ds) (h' : H0 b = some (.lst us)) (g' : G b) (r' : Reps T G H0 us es) : WalkD T G (Itz T.K a b) true (zipL ds es) H0 := by
  unfold WalkD
  refine (walk_zip (xs := vs) (ys := us) (by rw [zipL_len, r.length, r'.length])).mono (fun H e => ⟨SqL.of (e.keep _ _ (al_some g h) h), SqL.of (e.keep _ _ (al_some g' h') h')⟩) fun i H x H' _ e y => ?_
  obtain ⟨p, u, v, e1, e2, e3, e4, e5⟩ := y
  obtain ⟨d, h1, h2⟩ := (r.al).getV e4
  obtain ⟨d', h1', h2'⟩ := (r'.al).getV e5
  refine ⟨by rw [e3]; exact Ext.upd e2, .tup [d, d'], zipL_get h1 h1', fun G' gi fr => ?_⟩
  rw [e1]
  exact rep_pair fr e2 e3 (Rep.imp gi (Rep.evo e h2)) (Rep.imp gi (Rep.evo e h2'))
theorem walk_zipT {K : PySem.W.Frag} {a b : Addr} {xs ys : List V} {n : Nat} (hn : n = min xs.length ys.length) : Walk (RZ.ItzT K a b) n (fun H => SqT K H a xs ∧ SqT K H b ys) (YPair (fun i => xs[i]?) (fun i => ys[i]?)) := by
  subst hn
  refine ⟨fun i _ hi q => ?_, fun _ q => ⟨xs, ys, q.1, q.2, by omega⟩, fun i H v H' _ q y => ?_⟩
  · have h1 : i < xs.length := by omega
    have h2 : i < ys.length := by omega
    exact ⟨xs, ys, xs[i], ys[i], q.1, q.2, by simp [h1], by simp [h2]⟩
  · obtain ⟨T, x, z, h1, h2, h3, h4, h5⟩ := y
    exact ⟨T, x, z, h1, h2, h3, h4 xs q.1, h5 ys q.2⟩
theorem walkD_zipT {a b : Addr} {vs us : List V} {ds es : List D} (h : TupAt H0 a vs) (g : G a) (r : Reps T G H0 vs ds) (h' : TupAt H0 b us) (g' : G b) (r' : Reps T G H0 us es) : WalkD T G (RZ.ItzT T.K a b) true (zipL ds es) H0 := by
  unfold WalkD
  refine (walk_zipT (xs := vs) (ys := us) (by rw [zipL_len, r.length, r'.length])).mono (fun H e => ⟨(h.keep fun o q => e.keep _ o ⟨g, h.here⟩ q).sq, (h'.keep fun o q => e.keep _ o ⟨g', h'.here⟩ q).sq⟩) fun i H x H' _ e y => ?_
  obtain ⟨p, u, v, e1, e2, e3, e4, e5⟩ := y
  obtain ⟨d, h1, h2⟩ := (r.al).getV e4
  obtain ⟨d', h1', h2'⟩ := (r'.al).getV e5
  refine ⟨by rw [e3]; exact Ext.upd e2, .tup [d, d'], zipL_get h1 h1', fun G' gi fr => ?_⟩
  rw [e1]
  exact rep_pair fr e2 e3 (Rep.imp gi (Rep.evo e h2)) (Rep.imp gi (Rep.evo e h2'))
end

/-! ### the iterators -/
theorem noR {T : Wd} {G : Addr → Prop} {J : It} {m : Bool} {ds : List D} {H : Hp} {it : IT} (h : WalkD T G J m ds H) (hn : isRng it = false := by rfl) : ∀ G', (isRng it = true ∨ G' = G) → WalkD T G' J m ds H := fun G' z => by
  rcases z with z | z
  · rw [hn] at z; cases z
  · rw [z]; exact h
theorem hb_lst {H : Hp} (b : HB H) {a : Addr} {vs : List V} (h : H a = some (.lst vs)) : vs.length ≤ LIM := by rw [LIM_eq]; exact b.l a vs h
theorem hb_tup {H : Hp} (b : HB H) {a : Addr} {vs : List V} (h : TupAt H a vs) : vs.length ≤ LIM := by rw [LIM_eq]; exact b.t a vs h
theorem R.bind_ok {α β : Type} {r : R α} {f : α → R β} {b : β} (h : r.bind f = .ok b) : ∃ a, r = .ok a ∧ f a = .ok b := by
  cases r with
  | ok a => exact ⟨a, rfl, h⟩
  | exc c => cases h
  | bad => cases h
/-- PI by what the evaluation gives -/
theorem pi_by {X : Cx} {tg x : Expr} {t : TI} (h : ∀ pins s σ H R, Inv X pins σ H s → t σ H R → ∃ t', PI X tg x t' ∧ t' σ H R) : PI X tg x t :=
  ⟨fun pins s σ H R I q => let ⟨t', p, q'⟩ := h pins s σ H R I q; p.run pins s σ H R I q'⟩
theorem sndI_it {a : E} (ha : Snd Y a) : SndI Y (.it a) := by
  refine ⟨fun {X w sc x tg} C m mt => pi_by fun pins s σ H R I ⟨G, env, fr, en, h⟩ => ?_⟩
  have ha := ha.pe C m
  have eK : w.T.K = X.K := by rw [C.T]; rfl
  have h : AftX w σ H (fun ds H1 => ∀ J, (∀ G', (isRng (.it a) = true ∨ G' = G) → WalkD w.T G' J false ds H1) → ds.length ≤ LIM → R J H1) ((eval w.C a env).bind elems) := h
  cases ev : eval w.C a env with
  | bad => rw [ev] at h; exact h.elim
  | exc c =>
    refine ⟨_, pi_list (PE.known ha), ⟨G, env, fr, en, ?_⟩⟩
    rw [ev] at h ⊢
    exact h
  | ok d =>
    rw [ev] at h
    cases d <;> try exact (show False from h).elim
    · rename_i z
      have h : AftX w σ H (fun ds H1 => ∀ J, (∀ G', (isRng (.it a) = true ∨ G' = G) → WalkD w.T G' J false ds H1) → ds.length ≤ LIM → R J H1) (chk (decide (z.cps.toList.length ≤ LIM)) (.ok (z.cps.toList.map fun c => D.str ⟨#[c]⟩))) := h
      refine ⟨_, pi_str (PE.known ha), ⟨G, env, fr, en, ?_⟩⟩
      rw [ev]
      intro H1 e1 b1 v r b
      cases r
      obtain ⟨l, e, k⟩ := got (r := chk (decide (z.cps.toList.length ≤ LIM)) (.ok (z.cps.toList.map fun c => D.str ⟨#[c]⟩))) h fun _ => chk_ne ok_ne
      obtain ⟨q1, q2⟩ := chk_ok e
      cases q2
      exact ⟨z, rfl, k H1 e1 b _ (noR walkD_str) (by rw [List.length_map]; exact of_decide_eq_true q1)⟩
    · rename_i ds
      have h : AftX w σ H (fun ds H1 => ∀ J, (∀ G', (isRng (.it a) = true ∨ G' = G) → WalkD w.T G' J false ds H1) → ds.length ≤ LIM → R J H1) (.ok ds) := h
      refine ⟨_, pi_tup (PE.known ha), ⟨G, env, fr, en, ?_⟩⟩
      rw [ev]
      intro H1 e1 b1 v r b
      cases r with
      | @tup p vs _ hp g rs =>
        rw [← eK]
        exact ⟨p, rfl, ⟨vs, hp.sq⟩, AftX.ok (AftX.ext (r := .ok ds) h e1) b _ (noR (walkD_tup hp g rs)) (by rw [← rs.length]; exact hb_tup b hp)⟩
    · rename_i ds
      have h : AftX w σ H (fun ds H1 => ∀ J, (∀ G', (isRng (.it a) = true ∨ G' = G) → WalkD w.T G' J false ds H1) → ds.length ≤ LIM → R J H1) (.ok ds) := h
      refine ⟨_, pi_list (PE.known ha), ⟨G, env, fr, en, ?_⟩⟩
      rw [ev]
      intro H1 e1 b1 v r b
      cases r with
      | @lst p vs _ hp g rs =>
        rw [← eK]
        exact ⟨p, rfl, ⟨vs, SqL.of hp⟩, AftX.ok (AftX.ext (r := .ok ds) h e1) b _ (noR (walkD_lst hp g rs)) (by rw [← rs.length]; exact hb_lst b hp)⟩
theorem sndI_r1 {a : E} (ha : Snd Y a) : SndI Y (.r1 a) := by
  refine ⟨fun {X w sc x tg} C m mt => ?_⟩
  cases x <;> try exact Bool.noConfusion (show false = true from m)
  rename_i fn args kws pos
  cases fn <;> try exact Bool.noConfusion (show false = true from m)
  rename_i x p
  rcases kws with _ | ⟨_, _⟩ <;> try exact Bool.noConfusion (show false = true from m)
  rcases args with _ | ⟨e, _ | ⟨_, _⟩⟩ <;> try exact Bool.noConfusion (show false = true from m)
  obtain ⟨m1, m2, m3, m4⟩ := and4 (show (decide (x = Str.ofString "range") && glB sc x && mE Y X.N a sc e && !isStar e) = true from m)
  have m1 := of_decide_eq_true m1
  subst m1
  refine pi_by fun pins s σ H R I ⟨G, env, fr, en, h⟩ => ⟨_, pi_range1 (C.gl _ m2) (C.blt _ (by decide)) (pa_cons (PE.known (ha.pe C m3)) pa_nil (star_cons (not_t m4))) (star_cons (not_t m4)), ?_⟩
  have h : AftX w σ H (fun ds H1 => ∀ J, (∀ G', (isRng (.r1 a) = true ∨ G' = G) → WalkD w.T G' J false ds H1) → ds.length ≤ LIM → R J H1) ((eval w.C a env).bind fun x => match x with
    | .int n => chk (okR n) (.ok (rangeD 0 n.toNat))
    | _ => .bad) := h
  refine tE_bind fr en h fun dx x H1 e1 b1 rx h1 b => ?_
  cases rx <;> try exact (show False from h1).elim
  rename_i n
  obtain ⟨l, e, k⟩ := got (show AftX w σ H1 _ (chk (okR n) (.ok (rangeD 0 n.toNat))) from h1) fun _ => chk_ne ok_ne
  obtain ⟨q1, q2⟩ := chk_ok e
  cases q2
  unfold okR at q1
  simp only [Bool.and_eq_true, decide_eq_true_eq] at q1
  exact ⟨n, rfl, by omega, by omega, k H1 (Ext.refl _) b _ (fun _ _ => walkD_range) (by rw [rangeD_len]; unfold LIM; omega)⟩
theorem sndI_r2 {a c : E} (ha : Snd Y a) (hc : Snd Y c) : SndI Y (.r2 a c) := by
  refine ⟨fun {X w sc x tg} C m mt => ?_⟩
  cases x <;> try exact Bool.noConfusion (show false = true from m)
  rename_i fn args kws pos
  cases fn <;> try exact Bool.noConfusion (show false = true from m)
  rename_i x p
  rcases kws with _ | ⟨_, _⟩ <;> try exact Bool.noConfusion (show false = true from m)
  rcases args with _ | ⟨e, _ | ⟨e', _ | ⟨_, _⟩⟩⟩ <;> try exact Bool.noConfusion (show false = true from m)
  obtain ⟨m0, m5, m6⟩ := and3 (show (decide (x = Str.ofString "range") && glB sc x && mE Y X.N a sc e && !isStar e && mE Y X.N c sc e' && !isStar e') = true from m)
  obtain ⟨m1, m2, m3, m4⟩ := and4 m0
  have m1 := of_decide_eq_true m1
  subst m1
  refine pi_by fun pins s σ H R I ⟨G, env, fr, en, h⟩ => ⟨_, pi_range2 (C.gl _ m2) (C.blt _ (by decide)) (pa_cons (ha.pe C m3) (pa_cons (PE.known (hc.pe C m5)) pa_nil (star_cons (not_t m6))) (star_cons (not_t m4))) (by rw [star_cons (not_t m4), star_cons (not_t m6)]; rfl) (star_cons (not_t m6)), ?_⟩
  have h : AftX w σ H (fun ds H1 => ∀ J, (∀ G', (isRng (.r2 a c) = true ∨ G' = G) → WalkD w.T G' J false ds H1) → ds.length ≤ LIM → R J H1) ((eval w.C a env).bind fun x => (eval w.C c env).bind fun y => match x, y with
    | .int i, .int j => chk (okR i && okR j && decide (j - i ≤ 16777216)) (.ok (rangeD i (j - i).toNat))
    | _, _ => .bad) := h
  refine tE_bind fr en h fun dx x H1 e1 b1 rx h1 => ?_
  refine tE_bind (fr.ext e1) (en.ext e1) h1 fun dy y H2 e2 b2 ry h2 b => ?_
  cases rx <;> try exact (show False from h2).elim
  rename_i i
  cases ry <;> try exact (show False from h2).elim
  rename_i j
  obtain ⟨l, e, k⟩ := got (show AftX w σ H2 _ (chk (okR i && okR j && decide (j - i ≤ 16777216)) (.ok (rangeD i (j - i).toNat))) from h2) fun _ => chk_ne ok_ne
  obtain ⟨q1, q2⟩ := chk_ok e
  cases q2
  unfold okR at q1
  simp only [Bool.and_eq_true, decide_eq_true_eq] at q1
  exact ⟨i, j, rfl, ⟨by omega, by omega, by omega, by omega⟩, k H2 (Ext.refl _) b _ (fun _ _ => walkD_range) (by rw [rangeD_len]; unfold LIM; omega)⟩
theorem sndI_enu {a : E} (ha : Snd Y a) : SndI Y (.enu a) := by
  refine ⟨fun {X w sc x tg} C m mt => ?_⟩
  obtain ⟨elts, kk, tp, rfl⟩ := mt rfl
  cases x <;> try exact Bool.noConfusion (show false = true from m)
  rename_i fn args kws pos
  cases fn <;> try exact Bool.noConfusion (show false = true from m)
  rename_i x p
  rcases kws with _ | ⟨_, _⟩ <;> try exact Bool.noConfusion (show false = true from m)
  rcases args with _ | ⟨e, _ | ⟨_, _⟩⟩ <;> try exact Bool.noConfusion (show false = true from m)
  obtain ⟨m1, m2, m3, m4⟩ := and4 (show (decide (x = Str.ofString "enumerate") && glB sc x && mE Y X.N a sc e && !isStar e) = true from m)
  have m1 := of_decide_eq_true m1
  subst m1
  have eK : w.T.K = X.K := by rw [C.T]; rfl
  refine pi_by fun pins s σ H R I ⟨G, env, fr, en, h⟩ => ?_
  have h : AftX w σ H (fun ds H1 => ∀ J, (∀ G', (isRng (.enu a) = true ∨ G' = G) → WalkD w.T G' J true ds H1) → ds.length ≤ LIM → R J H1) ((eval w.C a env).bind fun x => (sqs x).bind fun ds => .ok (enumL ds)) := h
  have old : AftX w σ H (fun ds H1 => ∀ J, (∀ G', (isRng (.enu a) = true ∨ G' = G) → WalkD w.T G' J true ds H1) → ds.length ≤ LIM → R J H1) ((eval w.C a env).bind fun x => (lsts x).bind fun ds => .ok (enumL ds)) → ∃ t', PI X (.Tuple elts kk tp) (.Call (.Name (Str.ofString "enumerate") p) [e] [] pos) t' ∧ t' σ H R := fun h => by
    refine ⟨_, pi_enum (C.gl _ m2) (C.blt _ (by decide)) (pa_cons (PE.known (ha.pe C m3)) pa_nil (star_cons (not_t m4))) (star_cons (not_t m4)), ?_⟩
    refine tE_bind fr en h fun dx x H1 e1 b1 rx h1 b => ?_
    cases rx <;> try exact (show False from h1).elim
    rename_i q vs ds hp g rs
    rw [← eK]
    exact ⟨q, vs, rfl, SqL.of hp, AftX.ok (show AftX w σ H1 _ (.ok (enumL ds)) from h1) b _ (noR (walkD_enum hp g rs)) (by rw [enumL_len, ← rs.length]; exact hb_lst b hp)⟩
  cases ev : eval w.C a env with
  | bad => rw [ev] at h; exact h.elim
  | exc c => exact old (by rw [ev] at h ⊢; exact h)
  | ok d =>
    cases d <;> try exact (show False by rw [ev] at h; exact h).elim
    · rename_i ds0
      have h : AftX w σ H (fun ds H1 => ∀ J, (∀ G', (isRng (.enu a) = true ∨ G' = G) → WalkD w.T G' J true ds H1) → ds.length ≤ LIM → R J H1) ((eval w.C a env).bind fun x => match x with
        | .tup ds => .ok (enumL ds)
        | _ => .bad) := by rw [ev] at h ⊢; exact h
      refine ⟨_, pi_enumT (C.gl _ m2) (C.blt _ (by decide)) (pa_cons (PE.known (ha.pe C m3)) pa_nil (star_cons (not_t m4))) (star_cons (not_t m4)), ?_⟩
      refine tE_bind fr en h fun dx x H1 e1 b1 rx h1 b => ?_
      cases rx <;> try exact (show False from h1).elim
      rename_i q vs ds hp g rs
      rw [← eK]
      exact ⟨q, vs, rfl, hp.sq, AftX.ok (show AftX w σ H1 _ (.ok (enumL ds)) from h1) b _ (noR (walkD_enumT hp g rs)) (by rw [enumL_len, ← rs.length]; exact hb_tup b hp)⟩
    · exact old (by rw [ev] at h ⊢; exact h)
theorem sndI_zip {a c : E} (ha : Snd Y a) (hc : Snd Y c) : SndI Y (.zip a c) := by
  refine ⟨fun {X w sc x tg} C m mt => ?_⟩
  obtain ⟨elts, kk, tp, rfl⟩ := mt rfl
  cases x <;> try exact Bool.noConfusion (show false = true from m)
  rename_i fn args kws pos
  cases fn <;> try exact Bool.noConfusion (show false = true from m)
  rename_i x p
  rcases kws with _ | ⟨_, _⟩ <;> try exact Bool.noConfusion (show false = true from m)
  rcases args with _ | ⟨e, _ | ⟨e', _ | ⟨_, _⟩⟩⟩ <;> try exact Bool.noConfusion (show false = true from m)
  obtain ⟨m0, m5, m6⟩ := and3 (show (decide (x = Str.ofString "zip") && glB sc x && mE Y X.N a sc e && !isStar e && mE Y X.N c sc e' && !isStar e') = true from m)
  obtain ⟨m1, m2, m3, m4⟩ := and4 m0
  have m1 := of_decide_eq_true m1
  subst m1
  have eK : w.T.K = X.K := by rw [C.T]; rfl
  refine pi_by fun pins s σ H R I ⟨G, env, fr, en, h⟩ => ⟨_, RZ.pi_zipA (C.gl _ m2) (C.blt _ (by decide)) (pa_cons (ha.pe C m3) (pa_cons (PE.known (hc.pe C m5)) pa_nil (star_cons (not_t m6))) (star_cons (not_t m4))) (star_cons (not_t m4)) (by rw [star_cons (not_t m6)]; rfl), ?_⟩
  have h : AftX w σ H (fun ds H1 => ∀ J, (∀ G', (isRng (.zip a c) = true ∨ G' = G) → WalkD w.T G' J true ds H1) → ds.length ≤ LIM → R J H1) ((eval w.C a env).bind fun x => (eval w.C c env).bind fun y => match x, y with
    | .tup xs, .tup ys => .ok (zipL xs ys)
    | .lst xs, .lst ys => .ok (zipL xs ys)
    | _, _ => .bad) := h
  refine tE_bind fr en h fun dx x H1 e1 b1 rx h1 => ?_
  refine tE_bind (fr.ext e1) (en.ext e1) h1 fun dy y H2 e2 b2 ry h2 b => ?_
  rw [← eK]
  cases rx <;> try exact (show False from h2).elim
  · cases ry <;> try exact (show False from h2).elim
    rename_i q vs ds hp g rs q' vs' ds' hp' g' rs'
    refine ⟨q, q', vs, vs', rfl, .inr ⟨(hp.keep (e2 _)).sq, hp'.sq, AftX.ok (show AftX w σ H2 _ (.ok (zipL ds ds')) from h2) b _ (noR (walkD_zipT (hp.keep (e2 _)) g (rs.ext e2) hp' g' rs')) ?_⟩⟩
    have := hb_tup b hp'
    rw [zipL_len, ← rs'.length]; omega
  · cases ry <;> try exact (show False from h2).elim
    rename_i q vs ds hp g rs q' vs' ds' hp' g' rs'
    refine ⟨q, q', vs, vs', rfl, .inl ⟨SqL.of (e2 _ _ hp), SqL.of hp', AftX.ok (show AftX w σ H2 _ (.ok (zipL ds ds')) from h2) b _ (noR (walkD_zip (e2 _ _ hp) g (rs.ext e2) hp' g' rs')) ?_⟩⟩
    have := hb_lst b hp'
    rw [zipL_len, ← rs'.length]; omega
end Ev

/-! Ev16: comprehensions; all expressions. -/
namespace Ev
open PySem PySem.Spec L2
open PyProof.Rows hiding St
variable {Y : Tx}

theorem compL_get {f : D → R (Option D)} : ∀ {ds : List D} {r : List D}, compL f ds = .ok r → ∃ os : List (Option D), os.length = ds.length ∧ (∀ (i : Nat) (d : D), ds[i]? = some d → ∃ o, os[i]? = some o ∧ f d = .ok o) ∧ r = (os.map Option.toList).flatten
  | [], r, h => by
    cases (show R.ok [] = .ok r from h)
    exact ⟨[], rfl, fun i d e => by simp at e, rfl⟩
  | d :: ds, r, h => by
    obtain ⟨o, h1, h2⟩ := R.bind_ok (show ((f d).bind fun o => (compL f ds).bind fun r => .ok (o.toList ++ r)) = .ok r from h)
    obtain ⟨r', h3, h4⟩ := R.bind_ok h2
    cases h4
    obtain ⟨os, l, g, e⟩ := compL_get h3
    subst e
    refine ⟨o :: os, by simp [l], fun i d' e => ?_, by simp⟩
    cases i with
    | zero =>
      simp at e
      subst e
      exact ⟨o, rfl, h1⟩
    | succ i => exact g i d' (by simpa using e)
theorem noexc_ok' {α : Type} {r : R α} {a : α} (h : r.noexc = .ok a) : r = .ok a := by
  cases r with
  | ok b => cases h; rfl
  | exc c => cases h
  | bad => cases h
theorem noexc_ne {α : Type} {r : R α} {c : Nat} : r.noexc ≠ .exc c := by
  cases r <;> (intro h; cases h)
theorem compL_ne {f : D → R (Option D)} (hf : ∀ d c, f d ≠ .exc c) {c : Nat} : ∀ {ds : List D}, compL f ds ≠ .exc c
  | [] => ok_ne
  | d :: ds => bind_ne (hf d c) fun _ => bind_ne (compL_ne hf) fun _ => ok_ne
theorem own_idx {N : List Str} {tg : TG} : (ownOf N tg).map (·.2) = idx tg := by
  cases tg with
  | one i => rfl
  | tup is =>
    show (is.map fun i => (N.getD i "", i)).map (·.2) = is
    rw [List.map_map]
    exact List.map_id'' (fun _ => rfl) is
/-- a list, a dict that nothing else leans on -/
def OwnAt (T : Wd) (N : Addr → Prop) (H : Hp) (a : Addr) : D → Prop
  | .lst ds => ∃ vs, H a = some (.lst vs) ∧ Reps T N H vs ds
  | .dic kvs => ∃ xs, DicObj T.P T.w H a xs ∧ Repk T N H xs kvs
  | _ => False
theorem OwnAt.rep {T : Wd} {N G : Addr → Prop} {H : Hp} {a : Addr} {d : D} (h : OwnAt T N H a d) (i : ∀ b, N b → G b) (g : G a) : Rep T G H (.ref a) d := by
  cases d <;> try exact (show False from h).elim
  · obtain ⟨vs, h1, h2⟩ := h
    exact .lst h1 g (Reps.imp i h2)
  · obtain ⟨vs, h1, h2⟩ := h
    exact .dic h1 g (Repk.imp i h2)
/-- an expression whose value is a new list, a new dict -/
def tEf (w : Ws) (e : E) : TE := fun σ H Q => ∃ G env, Fresh G H ∧ EnvOk w.T G H σ env ∧ AftX w σ H (fun d H' => ∀ a, H a = none → OwnAt w.T (fun b => G b ∧ b ≠ a) H' a d → Q (.ref a) H') (eval w.C e env)
theorem tEf_of {w : Ws} {e : E} {σ : St} {H : Hp} {Q : VK} (h : tE w e σ H Q) : tEf w e σ H Q := by
  obtain ⟨G, env, fr, en, h⟩ := h
  exact ⟨G, env, fr, en, AftX.imp h fun d H' _ _ h' a ha o => h' _ (o.rep (fun _ z => z.1) (fr a ha))⟩
theorem lc_read {w : Ws} {elt : E} {tg : TG} {it : IT} {ifs : EL} {σ : St} {H : Hp} {Q : VK} (hm : mustTup it = true → isTupG tg = true) (hlen : ∀ i ∈ idx tg, i < σ.length) (h : tEf w (.cmpr elt tg it ifs) σ H Q) :
    tLc (tI w it) (gTgt w.T.K tg) (tF' w.mute ifs) (tE w.mute elt) (idx tg) σ H (fun x H1 => HB H1 → Q x H1) := by
  obtain ⟨G, env, fr, en, h⟩ := h
  generalize hP : (fun d H' => ∀ a, H a = none → OwnAt w.T (fun b => G b ∧ b ≠ a) H' a d → Q (.ref a) H') = P at h
  have hH1 : ∀ {H1 : Hp} {a : Addr}, Ext H H1 → H1 a = none → H a = none := fun e z => by
    cases q : H _ with
    | none => rfl
    | some o => rw [e _ _ q] at z; cases z
  refine ⟨G, env, fr, en, ?_⟩
  have h : AftX w σ H P ((evalI w.C it env).bind fun ds => (compL (fun d => ((setT tg d env).bind fun env' => (evalT w.C ifs env').bind fun k => if k then (eval w.C elt env').bind fun x => .ok (some x) else .ok none).noexc) ds).bind fun r => .ok (.lst r)) := h
  cases ev : evalI w.C it env with
  | bad => rw [ev] at h; exact h.elim
  | exc c => rw [ev] at h; exact h
  | ok ds =>
    rw [ev] at h
    intro H1 e1 b1
    have h := AftX.ext (show AftX w σ H P ((compL (fun d => ((setT tg d env).bind fun env' => (evalT w.C ifs env').bind fun k => if k then (eval w.C elt env').bind fun x => .ok (some x) else .ok none).noexc) ds).bind fun r => .ok (.lst r)) from h) e1
    intro J wk0 hl D hD
    have wk := wk0 G (.inr rfl)
    obtain ⟨r, er, h⟩ := gotB h fun c => compL_ne (fun _ _ => noexc_ne)
    obtain ⟨os, ol, og, rfl⟩ := compL_get er
    have fr1 := fr.ext e1
    have en1 := en.ext e1
    -- the ground without the new list
    let G1 : Addr → Prop := fun a => G a ∧ a ≠ D
    have gi : ∀ a, Al G H1 a → G1 a := fun a ha => ⟨ha.1, fun q => ha.2 (q ▸ hD)⟩
    have fr2 : ∀ {H' : Hp}, Ext H1 H' → H' D ≠ none → Fresh G1 H' := fun e hd a ha => ⟨(fr1.ext e) a ha, fun q => hd (q ▸ ha)⟩
    refine lc_it wk (fun i H' => Ext H1 H' ∧ ∃ vs, H' D = some (.lst vs) ∧ Reps w.T G1 H' vs ((os.take i).map Option.toList).flatten ∧ vs.length ≤ i) ⟨Ext.upd hD, [], upd_same, .nil, Nat.le_refl _⟩ (fun i H' _ q => q.1.evo) (fun i x H2 H3 hi q y => ?_) (fun H2 q => ?_)
    · obtain ⟨x2, vs, d2, rv, lv⟩ := q
      obtain ⟨x3, d, hd, rd⟩ := y
      obtain ⟨o, ho, fo⟩ := og i d hd
      have fo := noexc_ok' fo
      obtain ⟨env', es, fo⟩ := R.bind_ok fo
      obtain ⟨k, ek, fo⟩ := R.bind_ok fo
      have x13 := x2.trans x3
      have d3 := x3 _ _ d2
      have rx := rd G1 gi (fr2 x2 (by rw [d2]; simp))
      have hi' : ∀ i ∈ idx tg, i < (wipe σ (idx tg)).length := fun i hi => by rw [wipe_length]; exact hlen i hi
      refine tgt_ok hm rx es hi' (fun j d' hj ej => ?_) fun σ' en' hw hl' => ⟨by rw [hw _ fun _ z => z, wipe_wipe], ?_⟩
      · obtain ⟨v, h1, h2⟩ := en1 j d' ej
        exact ⟨v, by rw [wipe_get, if_neg hj]; exact h1, Rep.ext (Rep.imp gi (Rep.al h2)) x13⟩
      · refine ⟨G1, env', fr2 x13 (by rw [d3]; simp), en', ?_⟩
        show AftB w.mute σ' H3 _ (evalT w.C ifs env')
        rw [ek]
        intro H4 x4 b4
        have d4 := x4 _ _ d3
        have tk : (os.take (i + 1)).map Option.toList = (os.take i).map Option.toList ++ [o.toList] := by
          rw [List.take_succ, ho, List.map_append]; rfl
        have x14 := x13.trans x4
        have rv4 := (rv.ext x3).ext x4
        cases k with
        | false =>
          cases fo
          simp only [Bool.false_eq_true, if_false]
          refine ⟨x14, vs, d4, ?_, by omega⟩
          rw [tk, List.flatten_append]
          simpa using rv4
        | true =>
          obtain ⟨dx, edx, fo⟩ := R.bind_ok (show ((eval w.C elt env').bind fun x => R.ok (some x)) = .ok o from fo)
          cases fo
          simp only [if_true]
          refine ⟨G1, env', fr2 x14 (by rw [d4]; simp), en'.ext x4, ?_⟩
          show Aft w.mute G1 σ' H4 _ (eval w.C elt env')
          rw [edx]
          intro H5 x5 b5 v rv5
          have d5 := x5 _ _ d4
          have keep : Evo G1 H5 (upd H5 D (.lst (vs ++ [v]))) := ⟨fun a ob ga ha => by rw [upd_ne ga.2]; exact ha, fun a ha => by
            by_cases q : a = D
            · subst q; rw [upd_same] at ha; cases ha
            · rwa [upd_ne q] at ha⟩
          refine ⟨vs, d5, ?_, ⟨fun a ob ha => ?_, vs ++ [v], upd_same, ?_, by rw [List.length_append]; simp; exact lv⟩⟩
          · have : i < ds.length := hi
            rw [← LIM_eq]; omega
          · by_cases q : a = D
            · subst q; rw [hD] at ha; cases ha
            · rw [upd_ne q]; exact x5 _ _ (x14 _ _ ha)
          · rw [tk, List.flatten_append]
            have rr := (rv4.ext x5).append (Reps.cons rv5 .nil)
            have rr := Reps.evo keep rr
            simpa using rr
    · obtain ⟨x2, vs, d2, rv, lv⟩ := q
      rw [List.take_of_length_le (by omega)] at rv
      exact fun b => by
          have h' := h H2 x2 b
          rw [← hP] at h'
          exact h' D (hH1 e1 hD) ⟨vs, d2, rv⟩
theorem snd_cmpr {elt : E} {tg : TG} {it : IT} {ifs : EL} (he : Snd Y elt) (hi : SndI Y it) (hf : SndL Y ifs) : Snd Y (.cmpr elt tg it ifs) := by
  have pe : ∀ {X : Cx} {w : Ws} {sc : Scope} {x : Expr}, Cok Y X w sc → mE Y X.N (.cmpr elt tg it ifs) sc x = true → PE X x (tE w (.cmpr elt tg it ifs)) ∧ ∀ whole, isTrue x X.env whole = (do let v ← whole; standAt x.pos; holding [v] (truthy v)) := by
    intro X w sc x C m
    cases x <;> try exact Bool.noConfusion (show false = true from m)
    rename_i e gs scope p
    rcases gs with _ | ⟨⟨t, i, fs, n⟩, rest⟩ <;> try exact Bool.noConfusion (show false = true from m)
    · by_cases hn : n = 0
      · subst hn
        rcases rest with _ | ⟨_, _⟩ <;> try exact Bool.noConfusion (show false = true from m)
        obtain ⟨m0, m5, m6⟩ := and3 (show (mI Y X.N it sc i && (isTupG tg == mustTup it || isTupG tg) && mTG X.N scope tg t && mF Y X.N ifs scope fs && mE Y X.N elt scope e && blkC X.N sc scope (ownOf X.N tg) && !isSet i) = true from m)
        obtain ⟨m0, m3, m4⟩ := and3 m0
        obtain ⟨m1, m2, m2'⟩ := and3 m0
        refine ⟨⟨fun pins s σ H Q I ⟨G, env, fr, en, h⟩ => ?_⟩, fun _ => rfl⟩
        have mg : mustTup it = true → isTupG tg = true := fun hm => by
          rw [hm] at m2
          cases q : isTupG tg
          · rw [q] at m2; exact absurd m2 (by decide)
          · rfl
        have mt : mustTup it = true → ∃ elts k p, t = .Tuple elts k p := fun hm => by
          have ht := mg hm
          cases tg with
          | one _ => cases ht
          | tup is =>
            cases t <;> try exact Bool.noConfusion (show false = true from m2')
            exact ⟨_, _, _, rfl⟩
        refine (PE.known (pe_lc (g := gTgt X.K tg) C.calm C.hN (hi.pi C m1 mt) (C.blkOk m5) (fun s H a cl fp => pg_tgt (C.blk s H scope cl a fp) m2') (fun s H a cl fp => hf.pf (C.blk s H scope cl a fp) m3) (fun s H a cl fp => he.pe (C.blk s H scope cl a fp) m4) (no_set (not_t m6)))).run pins s σ H Q I ?_
        rw [own_idx]
        have hlen : ∀ i ∈ idx tg, i < σ.length := fun i hi => by rw [I.len]; exact tg_ix m2' i hi
        have eK : w.T.K = X.K := by rw [C.T]; rfl
        rw [← eK]
        exact lc_read mg hlen (tEf_of ⟨G, env, fr, en, h⟩)
      · exfalso
        revert m
        cases n with
        | ofNat n =>
          cases n with
          | zero => exact absurd rfl hn
          | succ n => cases rest <;> (intro m; exact Bool.noConfusion (show false = true from m))
        | negSucc n => cases rest <;> (intro m; exact Bool.noConfusion (show false = true from m))
  exact ⟨fun C m => (pe C m).1, fun C m => pt_of C (pe C m).1 (pe C m).2⟩
end Ev

/-! Ev17: all expressions. -/
namespace Ev
open PySem PySem.Spec L2
open PyProof.Rows hiding St
variable {Y : Tx}

theorem snd_dct {ks vs : EL} : Snd Y (.dct ks vs) := by
  have pe : ∀ {X : Cx} {w : Ws} {sc : Scope} {x : Expr}, Cok Y X w sc → mE Y X.N (.dct ks vs) sc x = true → PE X x (tE w (.dct ks vs)) ∧ ∀ whole, isTrue x X.env whole = (do let v ← whole; standAt x.pos; holding [v] (truthy v)) := by
    intro X w sc x C m
    cases x <;> try (cases ks <;> cases vs <;> exact Bool.noConfusion (show false = true from m))
    rename_i l r p
    cases ks <;> cases vs <;> cases l <;> cases r <;> try exact Bool.noConfusion (show false = true from m)
    refine ⟨⟨fun pins s σ H Q I ⟨G, env, fr, en, h⟩ => wpAny_Dict_empty ?_⟩, fun _ => rfl⟩
    have h : Aft w G σ H Q (.ok (.dic [])) := h
    have hb : s.heap.objs.size ≠ sysModules := Ne.symm (Nat.ne_of_lt I.big)
    have hs : (s.heap.objs.size == sysModules) = false := beq_eq_false_iff_ne.mpr hb
    have hd : (s.heap.push { cls := .type "dict", data := .dict #[] }).DictOfH (nestedKind X.prog X.w) s.heap.objs.size [] :=
      ⟨_, #[], 0, Heap.get?_push_size _ rfl, ⟨rfl, rfl, rfl⟩, rfl, rfl, (fun _ z => absurd z (by simp)), List.nodup_nil⟩
    obtain ⟨o, ho, hx⟩ := obj_of (H := H) (xs := []) hs (Nat.zero_le _) .nil hd
    have hn := I.hok.fresh (Nat.le_refl _)
    have I' := I.laid (o := o) (t' := s.toks) (fun _ _ q => Heap.get?_push_of_some _ q) (Nat.le_refl _) (ho _)
    have hD := hx (upd H s.heap.objs.size o) upd_same
    refine ⟨.ref s.heap.objs.size, _, I', rfl, h _ (Ext.upd hn) (Inv.hb I') _ (.dic ?_ (fr _ hn) .nil)⟩
    rw [C.T]
    exact hD
  exact ⟨fun C m => (pe C m).1, fun C m => pt_of C (pe C m).1 (pe C m).2⟩
theorem pe_by {X : Cx} {e : Expr} {t : TE} (h : ∀ pins s σ H Q, Inv X pins σ H s → t σ H Q → ∃ t', PE X e t' ∧ t' σ H Q) : PE X e t :=
  ⟨fun pins s σ H Q I q => let ⟨t', p, q'⟩ := h pins s σ H Q I q; p.run pins s σ H Q I q'⟩
/-- a method, by values; p: what it is called on -/
def rM (T : Wd) (m : MF) (p : D → Bool) : V → List V → Hp → VK → Prop := fun x xs H Q => ∃ G dx ds d, Fresh G H ∧ Rep T G H x dx ∧ Reps T G H xs ds ∧ p dx = true ∧ meth m dx ds = .ok d ∧ ∀ v H', Ext H H' → Rep T G H' v d → Q v H'
def isLstD : D → Bool
  | .lst _ => true
  | _ => false
def isTupD : D → Bool
  | .tup _ => true
  | _ => false
def isStrD : D → Bool
  | .str _ => true
  | _ => false
/-- a built-in type's method is told -/
structure MOk (m : MF) (p : D → Bool) (X : Cx) : Prop where
  go : ∃ T id, PlainAttrs T ∧ PySem.Slot T (Str.ofString (mfName m)) id ∧ typeOf (.builtin id) = pure (.type "method_descriptor") ∧ MtR X id (rM (.of X) m p) ∧ ∀ G H x dx, Rep (.of X) G H x dx → p dx = true → Bare X T x H
theorem mok_countL {X : Cx} (hu : X.A.units + 80 < cLine) : MOk .count isLstD X := by
  refine ⟨_, _, PySem.F.plainAttrs_list, PySem.F.slot_list_count, PySem.F.type_list_count, ?_, ?_⟩
  · intro pins s σ H x xs v us Q I rx rxs ⟨G, dx, ds, d, fr, r1, r2, hp, em, q⟩
    cases dx <;> try exact Bool.noConfusion (show false = true from hp)
    match ds, em with
    | [dv], em =>
      cases r2 with
      | cons r2 r3 =>
        cases r3
        exact mt_countD hu pins s σ H x _ v us Q I rx rxs ⟨G, _, _, d, _, r1, rfl, r2, em, fun v r => q v H (Ext.refl H) r⟩
    | [], em => cases em
    | _ :: _ :: _, em => cases em
  · intro G H x dx r hp
    cases dx <;> try exact Bool.noConfusion (show false = true from hp)
    cases r with
    | lst h g rs => exact bare_lst (SqL.of h)
theorem mok_countT {X : Cx} (hu : X.A.units + 80 < cLine) : MOk .count isTupD X := by
  refine ⟨_, _, PySem.F.plainAttrs_tuple, PySem.F.slot_tuple_count, PySem.F.type_tuple_count, ?_, ?_⟩
  · intro pins s σ H x xs v us Q I rx rxs ⟨G, dx, ds, d, fr, r1, r2, hp, em, q⟩
    cases dx <;> try exact Bool.noConfusion (show false = true from hp)
    match ds, em with
    | [dv], em =>
      cases r2 with
      | cons r2 r3 =>
        cases r3
        exact mt_countT hu pins s σ H x _ v us Q I rx rxs ⟨G, _, _, d, _, r1, rfl, r2, em, fun v r => q v H (Ext.refl H) r⟩
    | [], em => cases em
    | _ :: _ :: _, em => cases em
  · intro G H x dx r hp
    cases dx <;> try exact Bool.noConfusion (show false = true from hp)
    cases r with
    | tup h g rs => exact bare_tup h
theorem Reps.strs {T : Wd} {G : Addr → Prop} {H : Hp} : ∀ ys : List Str, Reps T G H (ys.map V.str) (ys.map D.str)
  | [] => .nil
  | y :: ys => .cons (.str y) (Reps.strs ys)
theorem Reps.of_strs {T : Wd} {G : Addr → Prop} {H : Hp} : ∀ {vs : List V} {ys : List Str}, Reps T G H vs (ys.map D.str) → vs = ys.map V.str
  | _, [], .nil => rfl
  | _, y :: ys, .cons r rs => by
    cases r
    rw [Reps.of_strs rs]; rfl
theorem strs?_map : ∀ {ds : List D} {ys : List Str}, strs? ds = some ys → ds = ys.map D.str
  | [], ys, h => by simp [strs?] at h; subst h; rfl
  | .str i :: ds, ys, h => by
    simp only [strs?, Option.map_eq_some_iff] at h
    obtain ⟨ms, h, rfl⟩ := h
    rw [strs?_map h]; rfl
  | .non :: _, _, h => by simp [strs?] at h
  | .bl _ :: _, _, h => by simp [strs?] at h
  | .int _ :: _, _, h => by simp [strs?] at h
  | .tup _ :: _, _, h => by simp [strs?] at h
  | .lst _ :: _, _, h => by simp [strs?] at h
  | .scr _ :: _, _, h => by simp [strs?] at h
  | .dic _ :: _, _, h => by simp [strs?] at h
  | .tab _ :: _, _, h => by simp [strs?] at h
theorem sepB_ok {b : Str} (h : sepB b = true) : (b.length == 0) = false ∧ b.cps.all (· < 256) = true ∧ TL.tl b ≠ [] := by
  obtain ⟨a, c⟩ := and2 h
  have a := not_t a
  refine ⟨a, c, fun e => ?_⟩
  rw [TL.len_tl, e] at a
  cases a
theorem meth_split {z : Str} {ds : List D} {d : D} (h : meth .split (.str z) ds = .ok d) : ∃ b, ds = [.str b] ∧ sepB b = true ∧ z.length + 2 ≤ LIM ∧ d = .lst ((TL.spl (TL.tl b) 0 [] (TL.tl z)).map fun l => .str ⟨l.toArray⟩) := by
  unfold meth at h
  split at h <;> try contradiction
  all_goals (rename_i q; cases q)
  obtain ⟨c1, c2⟩ := chk_ok h
  cases c2
  obtain ⟨c1, c3⟩ := and2 c1
  exact ⟨_, rfl, c1, of_decide_eq_true c3, rfl⟩
theorem meth_part {z : Str} {ds : List D} {d : D} (h : meth .part (.str z) ds = .ok d) : ∃ b, ds = [.str b] ∧ sepB b = true ∧ z.length ≤ LIM ∧ d = partD b z := by
  unfold meth at h
  split at h <;> try contradiction
  all_goals (rename_i q; cases q)
  obtain ⟨c1, c2⟩ := chk_ok h
  cases c2
  obtain ⟨c1, c3⟩ := and2 c1
  exact ⟨_, rfl, c1, of_decide_eq_true c3, rfl⟩
theorem meth_join {z : Str} {ds : List D} {d : D} (h : meth .join (.str z) ds = .ok d) : ∃ ys : List Str, ds = [.lst (ys.map .str)] ∧ (ys.map (·.length)).sum + ys.length * z.length ≤ LIM ∧ d = .str (PySem.Str.join z ys) := by
  unfold meth at h
  split at h <;> try contradiction
  all_goals (rename_i q; cases q)
  split at h
  · rename_i ys e
    obtain ⟨c1, c2⟩ := chk_ok h
    cases c2
    exact ⟨ys, by rw [strs?_map e], of_decide_eq_true c1, rfl⟩
  · cases h
theorem meth_get {kvs : List (D × D)} {ds : List D} {d : D} (h : meth .get (.dic kvs) ds = .ok d) : ∃ k x, ds = [k, x] ∧ keyT k = true ∧ d = (look kvs k).getD x := by
  unfold meth at h
  split at h <;> try contradiction
  all_goals (rename_i q; cases q)
  obtain ⟨c1, c2⟩ := chk_ok h
  cases c2
  exact ⟨_, _, rfl, c1, rfl⟩
theorem split_list {z b : Str} (h : sepB b = true) : Txt.split z b = (TL.spl (TL.tl b) 0 [] (TL.tl z)).map fun l => (⟨l.toArray⟩ : Str) := by
  obtain ⟨h1, h2, h3⟩ := sepB_ok h
  rw [← TL.split_spl z b h3 (TL.kind_ok h2), List.map_map]
  have e : ((fun l => (⟨l.toArray⟩ : Str)) ∘ TL.tl) = id := funext fun x => TL.mk_tl x
  rw [e, List.map_id]
theorem bare_strD {X : Cx} : ∀ G H x dx, Rep (.of X) G H x dx → isStrD dx = true → Bare X "str" x H := by
  intro G H x dx r hp
  cases dx <;> try exact Bool.noConfusion (show false = true from hp)
  cases r
  exact bare_str
theorem mok_split {X : Cx} : MOk .split isStrD X := by
  refine ⟨_, _, PySem.F.plainAttrs_str, PySem.F.slot_str_split, PySem.F.type_str_split, ?_, bare_strD⟩
  intro pins s σ H x xs v us Q I rx rxs ⟨G, dx, ds, d, fr, r1, r2, hp, em, q⟩
  cases dx <;> try exact Bool.noConfusion (show false = true from hp)
  rename_i z
  obtain ⟨b, rfl, hb, hl, rfl⟩ := meth_split em
  cases r1
  cases r2 with
  | cons r2 r3 =>
    cases r3
    cases r2
    rw [LIM_eq] at hl
    refine mt_split pins s σ H _ _ v us Q I rx rxs ⟨z, b, rfl, rfl, (sepB_ok hb).1, hl, fun p hp => ?_⟩
    have e := split_list (z := z) hb
    refine q _ _ (Ext.upd hp) (.lst upd_same (fr p hp) ?_)
    rw [e]
    have e3 : ((TL.spl (TL.tl b) 0 [] (TL.tl z)).map fun l => D.str ⟨l.toArray⟩) = ((TL.spl (TL.tl b) 0 [] (TL.tl z)).map fun l => (⟨l.toArray⟩ : Str)).map D.str := by rw [List.map_map]; rfl
    rw [e3]
    exact Reps.strs _
theorem mok_join {X : Cx} : MOk .join isStrD X := by
  refine ⟨_, _, PySem.F.plainAttrs_str, PySem.F.slot_str_join, PySem.F.type_str_join, ?_, bare_strD⟩
  intro pins s σ H x xs v us Q I rx rxs ⟨G, dx, ds, d, fr, r1, r2, hp, em, q⟩
  cases dx <;> try exact Bool.noConfusion (show false = true from hp)
  rename_i z
  obtain ⟨ys, rfl, hl, rfl⟩ := meth_join em
  cases r1
  cases r2 with
  | cons r2 r3 =>
    cases r3
    cases r2 with
    | @lst a vs _ ha g rs =>
      have ev := Reps.of_strs rs
      subst ev
      refine mt_join pins s σ H _ _ v us Q I rx rxs ⟨z, a, ys, rfl, rfl, .inl (SqL.of ha), hl, ?_⟩
      rw [TL.join_eq]
      exact q _ H (Ext.refl H) (.str _)
theorem mok_part {X : Cx} : MOk .part isStrD X := by
  refine ⟨_, _, PySem.F.plainAttrs_str, PySem.F.slot_str_partition, PySem.F.type_str_partition, ?_, bare_strD⟩
  intro pins s σ H x xs v us Q I rx rxs ⟨G, dx, ds, d, fr, r1, r2, hp, em, q⟩
  cases dx <;> try exact Bool.noConfusion (show false = true from hp)
  rename_i z
  obtain ⟨b, rfl, hb, hl, rfl⟩ := meth_part em
  cases r1
  obtain ⟨t, rfl⟩ := rx
  cases r2 with
  | cons r2 r3 =>
    cases r3
    cases r2
    cases rxs with
    | cons ry rt =>
      cases rt
      obtain ⟨u, rfl⟩ := ry
      rw [LIM_eq] at hl
      have fin : ∀ (x1 x2 x3 : Str) (t1 t2 t3 : Tok) (k : Nat), partD b z = .tup [.str x1, .str x2, .str x3] →
          EP X pins σ Q (.ref s.heap.objs.size) { s with toks := k, heap := s.heap.push { cls := .type "tuple", data := .seq [Value.str x1 t1, .str x2 t2, .str x3 t3].toArray } } := fun x1 x2 x3 t1 t2 t3 k e => by
        have I1 : Inv X pins σ H { s with heap := s.heap, toks := k } := I.tok k
        refine laidT (s := s) (h' := s.heap) (t := k) (vs := [.str x1, .str x2, .str x3]) (us := [Value.str x1 t1, .str x2 t2, .str x3 t3]) (n := 0) I1 (by show 3 ≤ sizeLine; decide) (.cons ⟨t1, rfl⟩ (.cons ⟨t2, rfl⟩ (.cons ⟨t3, rfl⟩ .nil))) ?_
        rw [e] at q
        exact fin_tup fr (.cons (.str _) (.cons (.str _) (.cons (.str _) .nil))) q
      refine call_meets PySem.F.slot_str_partition (typeIs_str _ _ _) PySem.F.entry_str_partition (PySem.F.args_str_partition_2 _ _) (meets_str_partition z b t u (sepB_ok hb).1 hl) ?_
      have e := TL.partition_par z b (sepB_ok hb).2.2
      unfold Txt.partition at e
      revert e
      cases Builtin.Str.occurrences z b 0 z.length 1 with
      | nil =>
        intro e
        refine fin _ _ _ _ _ _ _ ?_
        unfold partD
        cases hp : TL.par (TL.tl b) [] (TL.tl z) with
        | none => rfl
        | some ab =>
          rw [hp] at e
          obtain ⟨x1, x2⟩ := ab
          simp only [Prod.mk.injEq] at e
          show D.tup [D.str ⟨x1.toArray⟩, D.str b, D.str ⟨x2.toArray⟩] = _
          rw [← e.1, ← e.2.1, ← e.2.2]
      | cons i r =>
        intro e
        refine fin _ _ _ _ _ _ _ ?_
        unfold partD
        cases hp : TL.par (TL.tl b) [] (TL.tl z) with
        | none =>
          rw [hp] at e
          simp only [Prod.mk.injEq] at e
          show D.tup [D.str z, D.str Str.empty, D.str Str.empty] = _
          rw [e.1, e.2.2, e.2.1]
        | some ab =>
          rw [hp] at e
          obtain ⟨x1, x2⟩ := ab
          simp only [Prod.mk.injEq] at e
          show D.tup [D.str ⟨x1.toArray⟩, D.str b, D.str ⟨x2.toArray⟩] = _
          rw [← e.1, ← e.2.2]
theorem bare_dic {X : Cx} {H : Hp} {a : Addr} {xs : List (NestedKey × Addr × V)} (h : DicObj X.prog X.w H a xs) : Bare X "dict" (.ref a) H := fun pins σ s v I r => by
  cases r
  obtain ⟨_, _, o, es, ep, e, ex, _⟩ := h
  obtain ⟨φ, _⟩ := I.hok a _ e
  exact ⟨⟨o, φ, ex.1⟩, fun b z => by cases z; exact ⟨o, φ, ex.2.1⟩⟩
def isDicD : D → Bool
  | .dic _ => true
  | _ => false
theorem mok_get {X : Cx} (hu : X.A.units + 80 < cLine) : MOk .get isDicD X := by
  refine ⟨_, _, PySem.F.plainAttrs_dict, PySem.F.slot_dict_get, PySem.F.type_dict_get, ?_, ?_⟩
  · intro pins s σ H x xs v us Q I rx rxs ⟨G, dx, ds, d, fr, r1, r2, hp, em, q⟩
    cases dx <;> try exact Bool.noConfusion (show false = true from hp)
    rename_i kvs
    obtain ⟨k, x0, rfl, hk, rfl⟩ := meth_get em
    cases r2 with
    | cons r2 r3 =>
      cases r3 with
      | cons r3 r4 =>
        cases r4
        obtain ⟨a, rfl⟩ := key_ref r2 hk
        cases rxs with
        | cons ra rt =>
          cases rt with
          | cons rb rt =>
            cases rt
            cases ra
            cases r1 with
            | dic ho g rk =>
              cases rx
              obtain ⟨hn, ys, yr, m⟩ := dic_of I ho rk
              refine call_meetsIn PySem.F.slot_dict_get m.typeIs PySem.F.entry_dict_get (PySem.F.args_dict_get_3 _ _ _) (meetsH_dict_get_default (nestedKind X.prog X.w) _ a hn _) ⟨show X.A.units + 1 + 8 < cLine by omega, nk k, ys, key_is I r2 hk, m, ?_⟩
              rcases look_at rk yr hk with ⟨z1, z2⟩ | ⟨d', v', u', b, z1, z2, z3, z4⟩
              · rw [z1] at q
                rw [z2]
                exact ⟨_, H, I.tok _, rb, q _ H (Ext.refl H) r3⟩
              · rw [z1] at q
                rw [z2]
                exact ⟨v', H, I.tok _, z3, q _ H (Ext.refl H) z4⟩
  · intro G H x dx r hp
    cases dx <;> try exact Bool.noConfusion (show false = true from hp)
    cases r with
    | dic h g rs => exact bare_dic h
/-- the method that a value asks for -/
theorem mok_of {X : Cx} (hu : X.A.units + 80 < cLine) {m : MF} {d : D} (hr : recv m d = true) : ∃ p, p d = true ∧ MOk m p X := by
  cases m
  · cases d <;> try exact Bool.noConfusion (show false = true from hr)
    · exact ⟨isTupD, rfl, mok_countT hu⟩
    · exact ⟨isLstD, rfl, mok_countL hu⟩
  · cases d <;> try exact Bool.noConfusion (show false = true from hr)
    exact ⟨isStrD, rfl, mok_split⟩
  · cases d <;> try exact Bool.noConfusion (show false = true from hr)
    exact ⟨isStrD, rfl, mok_join⟩
  · cases d <;> try exact Bool.noConfusion (show false = true from hr)
    exact ⟨isStrD, rfl, mok_part⟩
  · cases d <;> try exact Bool.noConfusion (show false = true from hr)
    exact ⟨isDicD, rfl, mok_get hu⟩
/-- some rule for each -/
theorem mok_any {X : Cx} (hu : X.A.units + 80 < cLine) {m : MF} : ∃ p, MOk m p X := by
  cases m
  · exact ⟨isTupD, mok_countT hu⟩
  · exact ⟨isStrD, mok_split⟩
  · exact ⟨isStrD, mok_join⟩
  · exact ⟨isStrD, mok_part⟩
  · exact ⟨isDicD, mok_get hu⟩
theorem few_all {xs : List (Bool × Sem Value)} (h : xs.any (·.1) = false) : xs.all (fun x => !x.1) = true := by
  rw [List.all_eq_true]
  intro x hx
  rw [List.any_eq_false] at h
  have := h x hx
  simpa using this
theorem fewN {X : Cx} {es : EL} {sc : Scope} {args : List Expr} {cp : Pos} (m : mL Y X.N es sc args = true) (hl : args.length < 10) : ((backTo cp (starEach args X.env)).all (fun x => !x.1) && (backToKw cp (keywordEach [] X.env)).all (fun x => x.1.isSome)
      && decide (args.length + ([] : List Keyword).length + (if ([] : List Keyword).isEmpty then 0 else 1) < 30)) = true := by
  rw [few_all (back_nostar m)]
  have e : decide (args.length + ([] : List Keyword).length + (if ([] : List Keyword).isEmpty then 0 else 1) < 30) = true := by
    rw [decide_eq_true_eq]
    simp; omega
  rw [e]; rfl
theorem snd_mth {mt : MF} {o : E} {es : EL} (ho : Snd Y o) (hs : SndL Y es) : Snd Y (.mth mt o es) := by
  have pe : ∀ {X : Cx} {w : Ws} {sc : Scope} {x : Expr}, Cok Y X w sc → mE Y X.N (.mth mt o es) sc x = true → PE X x (tE w (.mth mt o es)) ∧ ∀ whole, isTrue x X.env whole = (do let v ← whole; standAt x.pos; holding [v] (truthy v)) := by
    intro X w sc x C m
    cases x <;> try exact Bool.noConfusion (show false = true from m)
    rename_i fn args kws cpos
    have mk : mfKnown mt = true := by cases mt <;> rfl
    cases fn <;> try (cases mt <;> exact Bool.noConfusion (show false = true from m))
    rename_i e x apos
    cases kws with
    | cons _ _ => cases mt <;> exact Bool.noConfusion (show false = true from m)
    | nil =>
      obtain ⟨m0, m5, m6⟩ := and3 (and2 (show (mfKnown mt && (decide (x = Str.ofString (mfName mt)) && mE Y X.N o sc e && !isCall e && mL Y X.N es sc args && decide (args.length = mfArity mt) && (apos.endLine == cpos.line))) = true from m)).2
      obtain ⟨m1, m2, m3, m4⟩ := and4 m0
      have m1 := of_decide_eq_true m1
      have m5 := of_decide_eq_true m5
      subst m1
      have hlen : args.length < 10 := by rw [m5]; cases mt <;> decide
      cases es with
      | nil => rw [mL_nil m4] at m5; cases mt <;> cases m5
      | cons a es' =>
        obtain ⟨xa, r, rfl, n1, n2, n3⟩ := mL_cons m4
        refine ⟨pe_by fun pins s σ H Q I ⟨G, env, fr, en, h⟩ => ?_, fun _ => rfl⟩
        have rule : ∀ {p : D → Bool}, MOk mt p X → ∃ T, PE X (.Call (.Attribute e (Str.ofString (mfName mt)) apos) (xa :: r) [] cpos) (fun σ H Q => tBMg X T (rM (.of X) mt p) (tE w o) (tL w (.cons a es')) σ H fun v H1 => HB H1 → Q v H1) ∧ ∀ G H x dx, Rep (.of X) G H x dx → p dx = true → Bare X T x H := fun K => by
          obtain ⟨T, id, k1, k2, k3, k4, k5⟩ := K.go
          exact ⟨T, PE.known (pe_bmG k1 k2 k3 k4 (ho.pe C m2) (hs.pa C m4) (att_base (not_t m3)) (fewN m4 hlen) m6 (star_cons n2) (back_nostar n3)), k5⟩
        have h : Aft w G σ H Q ((eval w.C o env).bind fun x => chk (recv mt x) ((evalL w.C (.cons a es') env).bind fun ds => meth mt x ds)) := h
        cases ev : eval w.C o env with
        | bad => rw [ev] at h; exact h.elim
        | exc c =>
          obtain ⟨p, K⟩ := mok_any (m := mt) C.hu
          obtain ⟨T, P, _⟩ := rule K
          refine ⟨_, P, G, env, fr, en, ?_⟩
          rw [ev] at h ⊢
          exact h
        | ok dx =>
          rw [ev] at h
          cases hr : recv mt dx with
          | false =>
            replace h : Aft w G σ H Q (chk (recv mt dx) ((evalL w.C (.cons a es') env).bind fun ds => meth mt dx ds)) := h
            rw [hr] at h; exact h.elim
          | true =>
            replace h : Aft w G σ H Q (chk (recv mt dx) ((evalL w.C (.cons a es') env).bind fun ds => meth mt dx ds)) := h
            rw [hr] at h
            obtain ⟨p, hp, K⟩ := mok_of C.hu hr
            obtain ⟨T, P, hb⟩ := rule K
            refine ⟨_, P, G, env, fr, en, ?_⟩
            rw [ev]
            intro H1 e1 b1 x rx
            have h1 : Aft w G σ H1 Q ((evalL w.C (.cons a es') env).bind fun ds => meth mt dx ds) := AftX.ext (r := (evalL w.C (.cons a es') env).bind fun ds => meth mt dx ds) h e1
            refine ⟨hb G H1 x dx (by rw [← C.T]; exact rx) hp, ?_⟩
            refine tL_bind (fr.ext e1) (en.ext e1) h1 fun ds us H2 e2 b2 rd h2 => ?_
            obtain ⟨d, ed, k⟩ := got h2 fun _ => meth_ne
            refine ⟨G, dx, ds, d, (fr.ext e1).ext e2, by rw [← C.T]; exact rx.ext e2, by rw [← C.T]; exact rd, hp, ed, fun v H' ex rv b => k H' ex b v (by rw [C.T]; exact rv)⟩
  exact ⟨fun C m => (pe C m).1, fun C m => pt_of C (pe C m).1 (pe C m).2⟩
theorem reps_rev {T : Wd} {G : Addr → Prop} {H : Hp} : ∀ {vs : List V} {ds : List D}, Reps T G H vs ds → Reps T G H vs.reverse ds.reverse
  | _, _, .nil => .nil
  | _, _, .cons r rs => by
    rw [List.reverse_cons, List.reverse_cons]
    exact (reps_rev rs).append (.cons r .nil)
theorem snd_rev {a : E} (ha : Snd Y a) : Snd Y (.rev a) := by
  have pe : ∀ {X : Cx} {w : Ws} {sc : Scope} {x : Expr}, Cok Y X w sc → mE Y X.N (.rev a) sc x = true → PE X x (tE w (.rev a)) ∧ ∀ whole, isTrue x X.env whole = (do let v ← whole; standAt x.pos; holding [v] (truthy v)) := by
    intro X w sc x C m
    cases x <;> try exact Bool.noConfusion (show false = true from m)
    rename_i l r p
    cases r <;> try exact Bool.noConfusion (show false = true from m)
    rename_i l1 h1 st p1
    cases l1 with
    | some _ => exact Bool.noConfusion (show false = true from m)
    | none =>
    cases h1 with
    | some _ => exact Bool.noConfusion (show false = true from m)
    | none =>
    cases st with
    | none => exact Bool.noConfusion (show false = true from m)
    | some e1 =>
    cases e1 <;> try exact Bool.noConfusion (show false = true from m)
    rename_i op e2 p2
    cases e2 <;> try exact Bool.noConfusion (show false = true from m)
    rename_i c k p3
    cases c <;> try exact Bool.noConfusion (show false = true from m)
    rename_i n
    obtain ⟨m1, m2, m3⟩ := and3 (show (decide (op = UnaryOp.USub) && decide (n = 1) && mE Y X.N a sc l) = true from m)
    have m1 := of_decide_eq_true m1
    have m2 := of_decide_eq_true m2
    subst m1 m2
    refine ⟨kE (pe_revT (ha.pe C m3)) fun σ H Q ⟨G, env, fr, en, h⟩ => ?_, fun _ => rfl⟩
    have h : Aft w G σ H Q ((eval w.C a env).bind revD) := h
    refine tE_bind fr en h fun dx x H1 e1 b1 rx h1 => ?_
    obtain ⟨d, e, k⟩ := got h1 fun _ => revD_ne
    rw [C.T] at rx
    cases dx <;> simp only [revD] at e <;> try (cases e; done)
    cases e
    cases rx with
    | tup ht g rs =>
      exact ⟨_, _, rfl, ht.sq, fin_tup (fr.ext e1) (reps_rev rs) fun v H' ex rv b => k H' ex b v (by rw [C.T]; exact rv)⟩
  exact ⟨fun C m => (pe C m).1, fun C m => pt_of C (pe C m).1 (pe C m).2⟩
/-! ### a written dict of constants, looked into at once -/
theorem valueAt_merged {K : Type} [DecidableEq K] : ∀ (rs acc : List (K × Value)) (k : K), (rs.map (·.1)).Nodup → valueAt (merged acc rs) k = (valueAt rs k).or (valueAt acc k)
  | [], acc, k, _ => rfl
  | p :: rs, acc, k, hn => by
    obtain ⟨h1, h2⟩ := List.nodup_cons.mp hn
    show valueAt (merged (stored acc p.1 p.2) rs) k = _
    rw [valueAt_merged rs _ k h2, valueAt_stored]
    by_cases c : k = p.1
    · subst c
      have e : valueAt rs p.1 = none := by
        unfold valueAt
        rw [Option.map_eq_none_iff, List.find?_eq_none]
        intro x hx hq
        exact h1 (List.mem_map.mpr ⟨x, hx, by simpa using hq⟩)
      have e2 : valueAt (p :: rs) p.1 = some p.2 := by simp [valueAt]
      rw [e, e2]; simp
    · have e2 : valueAt (p :: rs) k = valueAt rs k := by
        unfold valueAt
        rw [List.find?_cons_of_neg (by simpa using fun z => c z.symm)]
      rw [if_neg c, e2]
/-- the pairs of a written dict, as values -/
def TabV (P : Program) (w : World) : List (Value × Value) → List (D × D) → Prop
  | [], [] => True
  | (a, b) :: ws, (k, d) :: kvs => (keyF k = true ∧ (noneKind P w).is (fkey k) a = true ∧ ∃ v, cstV d = some v ∧ RelV v b) ∧ TabV P w ws kvs
  | _, _ => False
theorem tabV_carries {P : Program} {w : World} : ∀ {ws : List (Value × Value)} {kvs : List (D × D)}, TabV P w ws kvs → ∃ rs : List (Option Key × Value), Carries (noneKind P w) ws rs ∧ rs.map (·.1) = kvs.map (fun p => fkey p.1) ∧ TabF kvs (valueAt rs)
  | [], [], _ => ⟨[], True.intro, rfl, fun k hk => .inl ⟨rfl, rfl⟩⟩
  | (a, b) :: ws, (k0, d) :: kvs, h => by
    obtain ⟨⟨h1, h2, v, h3, h4⟩, ht⟩ := h
    obtain ⟨rs, c, e, f⟩ := tabV_carries ht
    refine ⟨(fkey k0, b) :: rs, ⟨h2, rfl, c⟩, by rw [List.map_cons, e]; rfl, fun k hk => ?_⟩
    have el : eqv k0 k = decide (fkey k0 = fkey k) := eqv_f h1 hk
    by_cases cc : fkey k0 = fkey k
    · rw [decide_eq_true cc] at el
      exact .inr ⟨d, v, b, by simp [look, el], by simp [valueAt, cc], h3, h4⟩
    · rw [decide_eq_false cc] at el
      have e1 : look ((k0, d) :: kvs) k = look kvs k := by simp [look, el]
      have e2 : valueAt ((fkey k0, b) :: rs) (fkey k) = valueAt rs (fkey k) := by simp [valueAt, cc]
      rw [e1, e2]
      exact f k hk
theorem cst_walk {X : Cx} {s : Shared} {c : Const} {j : Nat} {p : Pos} {d : D} {Q : Value → Shared → Prop} (m : cstB d c = true) (hv : (cstV d).isSome = true) (h : ∀ v u t, cstV d = some v → RelV v u → Q u { s with toks := t }) :
    wpAny (model X.prog X.w) X.A (PySem.eval (.Constant c j p) X.env) Q X.xe s := by
  cases d <;> cases c <;> first | (exact Bool.noConfusion (show false = true from m)) | (exact Bool.noConfusion (show false = true from hv)) | skip
  · exact Constant_none (h .non .none s.toks rfl rfl)
  · rename_i b c
    have e : b = c := by simpa [cstB] using m
    subst e
    exact wpAny_Constant_int (h (.int b) _ _ rfl ⟨_, rfl⟩)
  · rename_i b c
    have e : b = c := by simpa [cstB] using m
    subst e
    exact Calls.Constant_str (h (.str b) _ _ rfl ⟨_, rfl⟩)
theorem tab_walk {X : Cx} {pos : Pos} : ∀ {kvs : List (D × D)} {ks : List (Option Expr)} {vs : List Expr} {s : Shared} {Q : List (Value × Value) → Shared → Prop}, tabB kvs ks vs = true → (∀ ws t, TabV X.prog X.w ws kvs → Q ws { s with toks := t }) →
    wpAny (model X.prog X.w) X.A (evalPairs (pairTrees ks vs X.env pos)) Q X.xe s
  | [], ks, vs, s, Q, m, h => by
    cases ks <;> cases vs <;> first | (exact Bool.noConfusion (show false = true from m)) | skip
    exact pairTrees_nil_walk (h [] s.toks True.intro)
  | (k, d) :: kvs, ks, vs, s, Q, m, h => by
    cases ks with
    | nil => cases vs <;> exact Bool.noConfusion (show false = true from m)
    | cons ko ks =>
      cases vs with
      | nil =>
        cases ko with
        | none => exact Bool.noConfusion (show false = true from m)
        | some ke => cases ke <;> exact Bool.noConfusion (show false = true from m)
      | cons ve vs =>
        cases ko with
        | none => cases ve <;> exact Bool.noConfusion (show false = true from m)
        | some ke =>
          cases ke <;> first | (cases ve <;> exact Bool.noConfusion (show false = true from m)) | skip
          cases ve <;> first | (exact Bool.noConfusion (show false = true from m)) | skip
          rename_i c j p e j2 p2
          obtain ⟨m0, m4, m5⟩ := and3 (show (keyF k && (cstV d).isSome && cstB k c && cstB d e && tabB kvs ks vs) = true from m)
          obtain ⟨m1, m2, m3⟩ := and3 m0
          have hk : (cstV k).isSome = true := by cases k <;> first | rfl | cases m1
          refine pairTrees_cons_walk (cst_walk m3 hk fun v u t e1 r1 => cst_walk m4 m2 fun v2 u2 t2 e2 r2 => tab_walk m5 fun ws t3 tv => h _ t3 ⟨⟨m1, ?_, v2, e2, r2⟩, tv⟩)
          exact fkey_is (T := .of X) (G := fun _ => True) (H := fun _ => none) (cst_rep e1) r1 m1
theorem tabB_len : ∀ {kvs : List (D × D)} {ks : List (Option Expr)} {vs : List Expr}, tabB kvs ks vs = true → ks.all (·.isSome) = true ∧ ks.length = vs.length ∧ ks.length = kvs.length
  | [], ks, vs, m => by
    cases ks <;> cases vs <;> first | (exact Bool.noConfusion (show false = true from m)) | skip
    exact ⟨rfl, rfl, rfl⟩
  | (k, d) :: kvs, ks, vs, m => by
    cases ks with
    | nil => cases vs <;> exact Bool.noConfusion (show false = true from m)
    | cons ko ks =>
      cases vs with
      | nil =>
        cases ko with
        | none => exact Bool.noConfusion (show false = true from m)
        | some ke => cases ke <;> exact Bool.noConfusion (show false = true from m)
      | cons ve vs =>
        cases ko with
        | none => cases ve <;> exact Bool.noConfusion (show false = true from m)
        | some ke =>
          cases ke <;> first | (cases ve <;> exact Bool.noConfusion (show false = true from m)) | skip
          cases ve <;> first | (exact Bool.noConfusion (show false = true from m)) | skip
          rename_i c j p e j2 p2
          obtain ⟨a, b, cc⟩ := tabB_len (and2 (show (keyF k && (cstV d).isSome && cstB k c && cstB d e && tabB kvs ks vs) = true from m)).2
          exact ⟨by rw [List.all_cons, a]; rfl, by simp [b], by simp [cc]⟩
/-- the new dict -/
def tLit (X : Cx) (kvs : List (D × D)) : TE := fun σ H Q => ∀ (p : Addr) (o : Obj) (f : Option Key → Option Value), H p = none → (∀ h : Heap, h.get? p = some o → h.MapOf (noneKind X.prog X.w) p f) → TabF kvs f → Q (.ref p) (upd H p (.ext fun h => h.get? p = some o))
theorem pe_lit {X : Cx} {kvs : List (D × D)} {ks : List (Option Expr)} {vs : List Expr} {pos : Pos} (m : tabB kvs ks vs = true) (h15 : kvs.length ≤ 15) (h0 : kvs ≠ []) (nd : (kvs.map fun p => fkey p.1).Nodup) : PE X (.Dict ks vs pos) (tLit X kvs) := by
  refine ⟨fun pins s σ H Q I q => ?_⟩
  obtain ⟨l1, l2, l3⟩ := tabB_len m
  have hn := I.hok.fresh (Nat.le_refl s.heap.objs.size)
  refine wpAny_Dict_walk (knd := noneKind X.prog X.w) l1 l2 (fun z => h0 (List.eq_nil_of_length_eq_zero (by rw [← l3, z]; rfl))) (by omega) (tab_walk m fun ws t tv => ?_)
  obtain ⟨rs, c, e, f⟩ := tabV_carries tv
  refine ⟨rs, c, Heap.DictOf.new s.heap, fun h' dd hs => ?_⟩
  have keep : ∀ b o, s.heap.get? b = some o → h'.get? b = some o := fun b o z => by
    have hb := Heap.lt_size z
    rw [hs.2 b (Nat.ne_of_lt hb)]
    exact Heap.get?_push_of_some _ z
  have ef : ∀ k, valueAt (merged [] rs) k = valueAt rs k := fun k => by
    rw [valueAt_merged rs [] k (by rw [e]; exact nd)]
    show (valueAt rs k).or none = _
    cases valueAt rs k <;> rfl
  have hm := dd.mapOf
  obtain ⟨o, es, ep, ho, rest⟩ := hm
  have ok : ObjOk X.prog X.w (upd H s.heap.objs.size (.ext fun h => h.get? s.heap.objs.size = some o)) h' s.heap.objs.size (.ext fun h => h.get? s.heap.objs.size = some o) := ⟨ho, ⟨o, ho⟩, fun h1 h2 z k => k o z⟩
  refine ⟨.ref s.heap.objs.size, _, I.laid (h' := h') (t' := t + ws.length) keep (Nat.le_refl _) ok, rfl, q _ o (valueAt (merged [] rs)) hn (fun h z => ⟨o, es, ep, z, rest⟩) fun k hk => ?_⟩
  rw [ef]
  exact f k hk
theorem snd_pick {kvs : List (D × D)} {i : E} (hi : Snd Y i) : Snd Y (.pick kvs i) := by
  have pe : ∀ {X : Cx} {w : Ws} {sc : Scope} {x : Expr}, Cok Y X w sc → mE Y X.N (.pick kvs i) sc x = true → PE X x (tE w (.pick kvs i)) ∧ ∀ whole, isTrue x X.env whole = (do let v ← whole; standAt x.pos; holding [v] (truthy v)) := by
    intro X w sc x C m
    cases x <;> try exact Bool.noConfusion (show false = true from m)
    rename_i l r p
    cases l <;> try exact Bool.noConfusion (show false = true from m)
    rename_i ks vs pd
    obtain ⟨m0, m3, m4⟩ := and3 (show (tabB kvs ks vs && (decide (kvs.length ≤ 15) && (!kvs.isEmpty && decide ((kvs.map fun p => fkey p.1).Nodup))) && mE Y X.N i sc r && !isSl r) = true from m)
    obtain ⟨m1, m2⟩ := and2 m0
    obtain ⟨m5, m6⟩ := and2 m2
    obtain ⟨m7, m8⟩ := and2 m6
    have h0 : kvs ≠ [] := fun z => by rw [z] at m7; cases m7
    refine ⟨⟨fun pins s σ H Q I ⟨G, env, fr, en, h⟩ => ?_⟩, fun _ => rfl⟩
    have h : Aft w G σ H Q ((eval w.C i env).bind fun y => subD (.tab kvs) y) := h
    have hb := PE.known (hi.pe C m3)
    refine Subscript_ (thn ((pe_lit (X := X) (pos := pd) m1 (of_decide_eq_true m5) h0 (of_decide_eq_true m8)).run pins s σ H (fun x H1 => ∃ pa o f, x = .ref pa ∧ Ext H H1 ∧ H1 pa = some (.ext fun h => h.get? pa = some o) ∧ (∀ h : Heap, h.get? pa = some o → h.MapOf (noneKind X.prog X.w) pa f) ∧ TabF kvs f) I fun pa o f hn hm hf => ⟨pa, o, f, rfl, Ext.upd hn, upd_same, hm, hf⟩) fun v s1 ⟨x, H1, I1, rx, pa, o, f, ex, e1, ho, hm, hf⟩ => ?_)
    subst ex
    cases rx
    refine thn (hb.run pins s1 σ H1 (fun y H2 => ∃ dy d, Ext H1 H2 ∧ Rep w.T G H2 y dy ∧ subD (.tab kvs) dy = .ok d ∧ ∀ v H', Ext H2 H' → HB H' → Rep w.T G H' v d → Q v H') I1 ?_) fun u s2 ⟨y, H2, I2, ry, dy, d, e2, r2, es, k⟩ => ?_
    · refine tE_bind (fr.ext e1) (en.ext e1) (h.ext e1) fun dy y H2 e2 b2 ry h2 => ?_
      intro _
      obtain ⟨d, ed, k⟩ := got h2 fun _ => subD_ne
      exact ⟨dy, d, e2, ry, ed, fun v H' e b r => k H' e b v r⟩
    · simp only [subD] at es
      obtain ⟨c1, c2⟩ := chk_ok es
      rw [C.T] at r2
      have ho2 := (I2.hok pa _ (e2 _ _ ho)).1
      exact ix_mapO I2 (hm _ ho2) hf ry r2 c1 (orBad_ok c2) (fun v z => k v H2 (Ext.refl H2) (Inv.hb I2) (by rw [C.T]; exact cst_rep z)) (plain_ix (not_t m4) _ _)
  exact ⟨fun C m => (pe C m).1, fun C m => pt_of C (pe C m).1 (pe C m).2⟩
mutual
theorem sndE : ∀ e : E, Snd Y e
  | .var i => snd_var i
  | .glb x => snd_glb x
  | .cst d => snd_cst d
  | .bin o a b => snd_bin (sndE a) (sndE b)
  | .cmp o a b => snd_cmp (sndE a) (sndE b)
  | .chn o p a b c => snd_chn (sndE a) (sndE b) (sndE c)
  | .bop k es => snd_bop (sndEL es)
  | .nt a => snd_nt (sndE a)
  | .neg a => snd_neg (sndE a)
  | .ife t a b => snd_ife (sndE t) (sndE a) (sndE b)
  | .call f es => snd_call (sndEL es)
  | .blt f es => snd_blt (sndEL es)
  | .isi a t => snd_isi (sndE a)
  | .isis a => snd_isis (sndE a)
  | .mth m o es => snd_mth (sndE o) (sndEL es)
  | .sub a i => snd_sub (sndE a) (sndE i)
  | .pick kvs i => snd_pick (sndE i)
  | .slc a lo hi => snd_slc (sndE a) (sndEL lo) (sndEL hi)
  | .rev a => snd_rev (sndE a)
  | .tup es => snd_tup (sndEL es)
  | .lst es => snd_lst (sndEL es)
  | .dct ks vs => snd_dct
  | .cmpr elt tg it ifs => snd_cmpr (sndE elt) (sndIT it) (sndEL ifs)
theorem sndEL : ∀ es : EL, SndL Y es
  | .nil => sndL_nil
  | .cons e es => sndL_cons (sndE e) (sndEL es)
theorem sndIT : ∀ it : IT, SndI Y it
  | .it a => sndI_it (sndE a)
  | .r1 a => sndI_r1 (sndE a)
  | .r2 a b => sndI_r2 (sndE a) (sndE b)
  | .enu a => sndI_enu (sndE a)
  | .zip a b => sndI_zip (sndE a) (sndE b)
end
end Ev

/-! Ev18: new lists, new dicts. -/
namespace Ev
open PySem PySem.Spec L2
open PyProof.Rows hiding St
variable {Y : Tx}

def isFr : E → Bool
  | .lst _ => true
  | .dct _ _ => true
  | .cmpr _ _ _ _ => true
  | .blt .lis _ => true
  | .bin .add _ _ => true
  | _ => false
theorem ext_none {H H1 : Hp} {a : Addr} (e : Ext H H1) (z : H1 a = none) : H a = none := by
  cases q : H a with
  | none => rfl
  | some o => rw [e _ _ q] at z; cases z
theorem al_ne {G : Addr → Prop} {H : Hp} {p : Addr} (h : H p = none) : ∀ a, Al G H a → G a ∧ a ≠ p := fun a ha => ⟨ha.1, fun q => ha.2 (q ▸ h)⟩
/-- the new list, told -/
theorem own_lst {T : Wd} {G : Addr → Prop} {H : Hp} {p : Addr} {vs : List V} {ds : List D} (hp : H p = none) (r : Reps T G H vs ds) : OwnAt T (fun b => G b ∧ b ≠ p) (upd H p (.lst vs)) p (.lst ds) :=
  ⟨vs, upd_same, Reps.ext (Reps.imp (al_ne hp) r.al) (Ext.upd hp)⟩
theorem cmpr_text {N : List Str} {sc : Scope} {elt : E} {tg : TG} {it : IT} {ifs : EL} {e : Expr} {gs : List Comprehension} {scope : Scope} {p : Pos} (m : mE Y N (.cmpr elt tg it ifs) sc (.ListComp e gs scope p) = true) :
    ∃ t i fs, gs = [⟨t, i, fs, 0⟩] ∧ mI Y N it sc i = true ∧ mTG N scope tg t = true ∧ mF Y N ifs scope fs = true ∧ mE Y N elt scope e = true ∧ blkC N sc scope (ownOf N tg) = true ∧ isSet i = false ∧ (mustTup it = true → ∃ elts k p, t = .Tuple elts k p) ∧ (mustTup it = true → isTupG tg = true) := by
  rcases gs with _ | ⟨⟨t, i, fs, n⟩, rest⟩ <;> try exact Bool.noConfusion (show false = true from m)
  by_cases hn : n = 0
  · subst hn
    rcases rest with _ | ⟨_, _⟩ <;> try exact Bool.noConfusion (show false = true from m)
    obtain ⟨m0, m5, m6⟩ := and3 (show (mI Y N it sc i && (isTupG tg == mustTup it || isTupG tg) && mTG N scope tg t && mF Y N ifs scope fs && mE Y N elt scope e && blkC N sc scope (ownOf N tg) && !isSet i) = true from m)
    obtain ⟨m0, m3, m4⟩ := and3 m0
    obtain ⟨m1, m2, m2'⟩ := and3 m0
    have mg : mustTup it = true → isTupG tg = true := fun hm => by
      rw [hm] at m2
      cases q : isTupG tg
      · rw [q] at m2; exact absurd m2 (by decide)
      · rfl
    refine ⟨t, i, fs, rfl, m1, m2', m3, m4, m5, not_t m6, fun hm => ?_, mg⟩
    have ht := mg hm
    cases tg with
    | one _ => cases ht
    | tup is =>
      cases t <;> try exact Bool.noConfusion (show false = true from m2')
      exact ⟨_, _, _, rfl⟩
  · exfalso
    revert m
    cases n with
    | ofNat n =>
      cases n with
      | zero => exact absurd rfl hn
      | succ n => cases rest <;> (intro m; exact Bool.noConfusion (show false = true from m))
    | negSucc n => cases rest <;> (intro m; exact Bool.noConfusion (show false = true from m))
/-- a list or a dict -/
def isLD : D → Bool
  | .lst _ => true
  | .dic _ => true
  | _ => false
def tEg (w : Ws) (e : E) : TE := fun σ H Q => ∃ G env, Fresh G H ∧ EnvOk w.T G H σ env ∧ AftX w σ H (fun d H' => isLD d = true ∧ ∀ a, H a = none → OwnAt w.T (fun b => G b ∧ b ≠ a) H' a d → Q (.ref a) H') (eval w.C e env)
theorem call_listF {X : Cx} (hc : X.calm = true) : CallR X (.type "list") (fun xs H Q => ∃ G ds d, Fresh G H ∧ Reps (.of X) G H xs ds ∧ blt .lis ds = .ok d ∧ ∀ p vs ls, H p = none → d = .lst ls → Reps (.of X) G H vs ls → Q (.ref p) (upd H p (.lst vs))) := by
  intro pins s σ H xs us Q I rv ⟨G, ds, d, fr, rs, e, q⟩
  obtain ⟨dx, rfl⟩ := blt1 (by decide) e
  cases rs with
  | cons r rn =>
  cases rn
  cases dx <;> simp only [blt] at e <;> try (cases e; done)
  · cases e
    cases r with
    | tup ha g rs => exact call_list_of pins s σ H _ _ Q I rv ⟨_, _, rfl, .inr ha.sq, fun l hl => q l _ _ hl rfl rs⟩
  · cases e
    cases r with
    | lst ha g rs => exact call_list_of pins s σ H _ _ Q I rv ⟨_, _, rfl, .inl (SqL.of ha), fun l hl => q l _ _ hl rfl rs⟩
  · cases e
    cases r with
    | @dic a xs kvs ho g rk =>
      cases rv with
      | cons ru rn =>
      cases rn
      cases ru
      obtain ⟨hn, ys, yr, m⟩ := dic_of I ho rk
      obtain ⟨es, ep, hr, hs, he⟩ := Heap.DictOfH.raw m
      have hz := ho.2.1
      have hl : ys.length = xs.length := (Paired.length yr).symm
      refine PySem.W.kdl_call (PySem.KdlSrc.rawDict (es := es) (ep := ep) hn) (I.ok.hd hc) hr (by rw [hs, hl]; exact hz) fun h' tk acc c' k hS hacc => ?_
      have ea : acc.toList = ys.map fun y => Value.ref y.2.1 := by
        refine List.ext_getElem? fun i => ?_
        by_cases hi : i < es.size
        · obtain ⟨y, hy, h1, h2, h3⟩ := he i hi
          have hia : i < acc.size := by rw [hacc.1]; exact hi
          obtain ⟨hi', ev⟩ := hacc.2 i acc[i] (by simp [hia])
          rw [List.getElem?_map, hy, Array.getElem?_toList, Array.getElem?_eq_getElem hia, ev]
          simp [h1]
        · rw [List.getElem?_eq_none (by rw [Array.length_toList, hacc.1]; omega), List.getElem?_eq_none (by rw [List.length_map, ← hs]; omega)]
      have hn' : H s.heap.objs.size = none := I.hok.fresh (Nat.le_refl _)
      refine ⟨.ref s.heap.objs.size, _, I.laid (a := s.heap.objs.size) (o := .lst (xs.map fun x => V.ref x.2.1)) (t' := tk) k (Nat.le_refl _) ⟨by rw [List.length_map]; exact hz, acc.toList, c', ?_, ?_⟩, rfl, q _ _ _ hn' rfl (reps_keys rk)⟩
      · rw [ea]; exact vals_keys (T := .of X) (G := G) yr
      · simpa using hS
theorem frE : ∀ (e : E), isFr e = true → ∀ {X : Cx} {w : Ws} {sc : Scope} {x : Expr}, Cok Y X w sc → mE Y X.N e sc x = true → PE X x (tEg w e) := by
  intro e hf X w sc x C m
  cases e <;> try exact Bool.noConfusion (show false = true from hf)
  case bin o a b =>
    cases o <;> try exact Bool.noConfusion (show false = true from hf)
    cases x <;> try exact Bool.noConfusion (show false = true from m)
    rename_i l op r p
    obtain ⟨m1, m2, m3⟩ := and3 (show (decide (op = bop .add) && mE Y X.N a sc l && mE Y X.N b sc r) = true from m)
    have m1 := of_decide_eq_true m1
    subst m1
    refine kE (pe_op op_cat ((sndE a).pe C m2) ((sndE b).pe C m3)) fun σ H Q ⟨G, env, fr, en, h⟩ => ?_
    have h : AftX w σ H (fun d H' => isLD d = true ∧ ∀ a, H a = none → OwnAt w.T (fun b => G b ∧ b ≠ a) H' a d → Q (.ref a) H') ((eval w.C a env).bind fun x => (eval w.C b env).bind fun y => binop .add x y) := h
    refine tE_bind fr en h fun dx x H1 e1 b1 rx h1 => ?_
    refine tE_bind (fr.ext e1) (en.ext e1) h1 fun dy y H2 e2 b2 ry h2 => ?_
    obtain ⟨d, e, k⟩ := got h2 fun _ => binop_ne
    have hl := (k H2 (Ext.refl _) b2).1
    have rx := rx.ext e2
    cases dx <;> cases dy <;> simp only [binop] at e <;> try (cases e; done)
    · cases e; cases hl
    · obtain ⟨_, h2⟩ := chk_ok e; cases h2; cases hl
    · obtain ⟨_, h2⟩ := chk_ok e; cases h2; cases hl
    · obtain ⟨h1, h2⟩ := chk_ok e
      cases h2
      rw [LIM_eq, decide_eq_true_eq] at h1
      cases rx with
      | lst a1 g1 q1 =>
        cases ry with
        | lst a2 g2 q2 =>
          rw [← q1.length, ← q2.length] at h1
          exact ⟨_, _, _, _, rfl, rfl, a1, a2, h1, fun p hp b => (k _ (Ext.upd hp) b).2 p (ext_none (e1.trans e2) hp) (own_lst hp (q1.append q2))⟩
  case lst es =>
    cases x <;> try exact Bool.noConfusion (show false = true from m)
    rename_i xs p
    obtain ⟨m1, m2⟩ := and2 (show (mL Y X.N es sc xs && decide (xs.length < 100)) = true from m)
    have m2 := of_decide_eq_true m2
    refine kE (pe_lst ((sndEL es).pa C m1)) fun σ H Q ⟨G, env, fr, en, h⟩ => ?_
    have h : AftX w σ H (fun d H' => isLD d = true ∧ ∀ a, H a = none → OwnAt w.T (fun b => G b ∧ b ≠ a) H' a d → Q (.ref a) H') ((evalL w.C es env).bind fun ds => .ok (.lst ds)) := h
    refine tL_bind2 fr en h fun ds xs H1 el e1 b1 rx h1 => ?_
    have l1 := evalL_len m1 el
    have l2 := rx.length
    refine ⟨by rw [sizeLine_eq]; omega, fun p hp b => ?_⟩
    exact (h1 _ (Ext.upd hp) b).2 p (ext_none e1 hp) (own_lst hp rx)
  case dct ks vs =>
    cases x <;> try (cases ks <;> cases vs <;> exact Bool.noConfusion (show false = true from m))
    rename_i l r p
    cases ks <;> cases vs <;> cases l <;> cases r <;> try exact Bool.noConfusion (show false = true from m)
    refine ⟨fun pins s σ H Q I ⟨G, env, fr, en, h⟩ => wpAny_Dict_empty ?_⟩
    have h : AftX w σ H (fun d H' => isLD d = true ∧ ∀ a, H a = none → OwnAt w.T (fun b => G b ∧ b ≠ a) H' a d → Q (.ref a) H') (.ok (.dic [])) := h
    have hb : s.heap.objs.size ≠ sysModules := Ne.symm (Nat.ne_of_lt I.big)
    have hs : (s.heap.objs.size == sysModules) = false := beq_eq_false_iff_ne.mpr hb
    have hd : (s.heap.push { cls := .type "dict", data := .dict #[] }).DictOfH (nestedKind X.prog X.w) s.heap.objs.size [] :=
      ⟨_, #[], 0, Heap.get?_push_size _ rfl, ⟨rfl, rfl, rfl⟩, rfl, rfl, (fun _ z => absurd z (by simp)), List.nodup_nil⟩
    obtain ⟨o, ho, hx⟩ := obj_of (H := H) (xs := []) hs (Nat.zero_le _) .nil hd
    have hn := I.hok.fresh (Nat.le_refl _)
    have I' := I.laid (o := o) (t' := s.toks) (fun _ _ q => Heap.get?_push_of_some _ q) (Nat.le_refl _) (ho _)
    have hD := hx (upd H s.heap.objs.size o) upd_same
    refine ⟨.ref s.heap.objs.size, _, I', rfl, (h _ (Ext.upd hn) (Inv.hb I')).2 _ hn ⟨[], ?_, .nil⟩⟩
    rw [C.T]
    exact hD
  case blt f es =>
    cases f <;> try exact Bool.noConfusion (show false = true from hf)
    cases x <;> try exact Bool.noConfusion (show false = true from m)
    rename_i fn args kws pos
    cases fn <;> try exact Bool.noConfusion (show false = true from m)
    rename_i x p
    cases kws with
    | cons _ _ => exact Bool.noConfusion (show false = true from m)
    | nil =>
      obtain ⟨a, b, c⟩ := and3 (show (decide (x = Str.ofString "list") && glB sc x && (mL Y X.N es sc args && !args.isEmpty && !isDic .lis)) = true from m)
      obtain ⟨c1, c2, c3⟩ := and3 c
      have a := of_decide_eq_true a
      subst a
      cases es with
      | nil => rw [mL_nil c1] at c2; cases c2
      | cons e es' =>
        obtain ⟨y, r, rfl, n1, n2, n3⟩ := mL_cons c1
        refine kE (pe_callTy (p := p) (pos := pos) (call_listF C.calm) (C.gl _ b) (C.blt _ (by decide)) boot_list ((sndEL (.cons e es')).pa C c1) (by decide) (by decide) (star_cons n2) (back_nostar n3)) fun σ H Q ⟨G, env, fr, en, h⟩ => ?_
        have h : AftX w σ H (fun d H' => isLD d = true ∧ ∀ a, H a = none → OwnAt w.T (fun b => G b ∧ b ≠ a) H' a d → Q (.ref a) H') ((evalL w.C (.cons e es') env).bind fun ds => blt .lis ds) := h
        refine tL_bind fr en h fun ds vs H1 e1 b1 rx h1 => ?_
        obtain ⟨d, ed, k⟩ := got h1 fun _ => blt_ne
        rw [C.T] at rx
        refine ⟨G, ds, d, fr.ext e1, rx, ed, fun p vs ls hp hd rs b => ?_⟩
        subst hd
        rw [← C.T] at rs
        exact (k _ (Ext.upd hp) b).2 p (ext_none e1 hp) (own_lst hp rs)
  case cmpr elt tg it ifs =>
    cases x <;> try exact Bool.noConfusion (show false = true from m)
    rename_i e gs scope p
    obtain ⟨t, i, fs, rfl, m1, m2, m3, m4, m5, m6, mt, mg⟩ := cmpr_text m
    refine ⟨fun pins s σ H Q I ⟨G, env, fr, en, h⟩ => ?_⟩
    refine (PE.known (pe_lc (g := gTgt X.K tg) C.calm C.hN ((sndIT it).pi C m1 mt) (C.blkOk m5) (fun s H a cl fp => pg_tgt (C.blk s H scope cl a fp) m2) (fun s H a cl fp => (sndEL ifs).pf (C.blk s H scope cl a fp) m3) (fun s H a cl fp => (sndE elt).pe (C.blk s H scope cl a fp) m4) (no_set m6))).run pins s σ H Q I ?_
    rw [own_idx, ← (by rw [C.T]; rfl : w.T.K = X.K)]
    exact lc_read mg (fun i hi => by rw [I.len]; exact tg_ix m2 i hi) ⟨G, env, fr, en, AftX.imp h fun d H' _ _ z => z.2⟩
end Ev

/-! Ev19: the slots: values, own lists. -/
namespace Ev
open PySem PySem.Spec L2
open PyProof.Rows hiding St

def Own (env : SEnv) (σ : St) (a : Addr) : Prop := ∃ (i : Nat) (d : D), env[i]? = some (.own d) ∧ σ[i]? = some (some (.ref a))
def Nv (G : Addr → Prop) (env : SEnv) (σ : St) : Addr → Prop := fun a => G a ∧ ¬ Own env σ a
structure SRep (T : Wd) (G : Addr → Prop) (H : Hp) (σ : St) (env : SEnv) : Prop where
  len : σ.length = env.length
  val : ∀ (i : Nat) (d : D), env[i]? = some (.val d) → ∃ v : V, σ[i]? = some (some v) ∧ Rep T (Nv G env σ) H v d
  own : ∀ (i : Nat) (d : D), env[i]? = some (.own d) → ∃ a, σ[i]? = some (some (.ref a)) ∧ G a ∧ OwnAt T (Nv G env σ) H a d
  dis : ∀ (i j : Nat) (d d' : D) a, env[i]? = some (.own d) → env[j]? = some (.own d') → σ[i]? = some (some (.ref a)) → σ[j]? = some (some (.ref a)) → i = j
structure Step (env : SEnv) (σ : St) (H : Hp) (env' : SEnv) (σ' : St) (H' : Hp) : Prop where
  evo : Evo (fun a => ¬ Own env σ a) H H'
  own : ∀ a, Own env' σ' a → Own env σ a ∨ H a = none
section
variable {T : Wd} {G N N' : Addr → Prop} {H H' H1 H2 : Hp} {σ σ' σ1 σ2 : St} {env env' e1 e2 : SEnv} {a : Addr} {d : D}
theorem OwnAt.imp (i : ∀ b, N b → N' b) (h : OwnAt T N H a d) : OwnAt T N' H a d := by
  cases d <;> try exact (show False from h).elim
  · obtain ⟨vs, h1, h2⟩ := h; exact ⟨vs, h1, Reps.imp i h2⟩
  · obtain ⟨vs, h1, h2⟩ := h; exact ⟨vs, h1, Repk.imp i h2⟩
theorem OwnAt.evo (e : Evo N H H') (k : ∀ o, H a = some o → H' a = some o) (h : OwnAt T N H a d) : OwnAt T N H' a d := by
  cases d <;> try exact (show False from h).elim
  · obtain ⟨vs, h1, h2⟩ := h; exact ⟨vs, k _ h1, Reps.evo e h2⟩
  · obtain ⟨vs, h1, h2⟩ := h; exact ⟨vs, h1.at k, Repk.evo e h2⟩
theorem OwnAt.al (h : OwnAt T N H a d) : OwnAt T (Al N H) H a d := by
  cases d <;> try exact (show False from h).elim
  · obtain ⟨vs, h1, h2⟩ := h; exact ⟨vs, h1, h2.al⟩
  · obtain ⟨vs, h1, h2⟩ := h; exact ⟨vs, h1, h2.al⟩
theorem OwnAt.here (h : OwnAt T N H a d) : H a ≠ none := by
  cases d <;> try exact (show False from h).elim
  · obtain ⟨vs, h1, h2⟩ := h; rw [h1]; simp
  · obtain ⟨vs, h1, h2⟩ := h; exact h1.al
theorem OwnAt.notup (h : OwnAt T N H a d) {vs : List V} : ¬ TupAt H a vs := by
  cases d <;> try exact (show False from h).elim
  · obtain ⟨vs', h1, h2⟩ := h; rintro ⟨o, z, _⟩; rw [h1] at z; cases z
  · obtain ⟨xs, ⟨_, _, o, _, _, e, _⟩, _⟩ := h; rintro ⟨o, z, _⟩; rw [e] at z; cases z
theorem Step.refl' (h : ∀ a, Own env' σ' a → Own env σ a) : Step env σ H env' σ' H := ⟨Evo.refl _, fun a z => .inl (h a z)⟩
theorem Step.of_ext (e : Ext H H') : Step env σ H env σ H' := ⟨e.evo, fun _ z => .inl z⟩
theorem Step.evoTrans (s : Step env σ H e1 σ1 H1) (k : Evo (fun a => ¬ Own e1 σ1 a) H1 H2) : Evo (fun a => ¬ Own env σ a) H H2 :=
  ⟨fun a o n h => k.keep a o (fun z => by rcases s.own a z with q | q
                                          · exact n q
                                          · rw [h] at q; cases q) (s.evo.keep a o n h), fun a h => s.evo.free a (k.free a h)⟩
theorem Step.trans (s : Step env σ H e1 σ1 H1) (t : Step e1 σ1 H1 e2 σ2 H2) : Step env σ H e2 σ2 H2 :=
  ⟨s.evoTrans t.evo, fun a z => by
    rcases t.own a z with q | q
    · exact s.own a q
    · exact .inr (s.evo.free a q)⟩
theorem SRep.ext (h : SRep T G H σ env) (e : Ext H H') : SRep T G H' σ env :=
  ⟨h.len, fun i d q => let ⟨v, h1, h2⟩ := h.val i d q; ⟨v, h1, h2.ext e⟩, fun i d q => let ⟨a, h1, h2, h3⟩ := h.own i d q; ⟨a, h1, h2, h3.evo e.evo (fun o z => e _ _ z)⟩, h.dis⟩
theorem SRep.ownSome (h : SRep T G H σ env) (o : Own env σ a) : H a ≠ none ∧ G a ∧ ∀ vs, ¬ TupAt H a vs := by
  obtain ⟨i, d, h1, h2⟩ := o
  obtain ⟨a', h3, h4, h5⟩ := h.own i d h1
  rw [h2] at h3; cases h3
  exact ⟨h5.here, h4, fun _ => h5.notup⟩
theorem SRep.fresh (h : SRep T G H σ env) (fr : Fresh G H) : Fresh (Nv G env σ) H := fun a z => ⟨fr a z, fun o => (h.ownSome o).1 z⟩
theorem SRep.datas (h : SRep T G H σ env) : EnvOk T G H σ (datas env) := fun i d q => by
  unfold Ev.datas at q
  rw [List.getElem?_map] at q
  cases e : env[i]? with
  | none => rw [e] at q; cases q
  | some s =>
    rw [e] at q
    cases s with
    | emp => cases q
    | val d' =>
      cases q
      obtain ⟨v, h1, h2⟩ := h.val i d e
      exact ⟨v, h1, Rep.imp (fun _ z => z.1) h2⟩
    | own d' =>
      cases q
      obtain ⟨a, h1, h2, h3⟩ := h.own i d e
      exact ⟨_, h1, h3.rep (fun _ z => z.1) h2⟩
theorem SRep.vals (h : SRep T G H σ env) : EnvOk T (Nv G env σ) H σ (vals env) := fun i d q => by
  unfold Ev.vals at q
  rw [List.getElem?_map] at q
  cases e : env[i]? with
  | none => rw [e] at q; cases q
  | some s =>
    rw [e] at q
    cases s with
    | emp => cases q
    | val d' =>
      cases q
      exact h.val i d e
    | own d' => cases q
theorem own_mono {i : Nat} {s : Slot} {x : Option V} (hs : s.isOwn = false) : Own (env.set i s) (σ.set i x) a → Own env σ a := by
  rintro ⟨j, d, h1, h2⟩
  by_cases e : i = j
  · subst e
    rw [List.getElem?_set] at h1
    simp only [if_true] at h1
    split at h1
    · cases h1; cases hs
    · cases h1
  · rw [List.getElem?_set_ne e] at h1 h2
    exact ⟨j, d, h1, h2⟩
theorem own_mono' {i : Nat} {s : Slot} (hs : s.isOwn = false) : Own (env.set i s) σ a → Own env σ a := by
  rintro ⟨j, d, h1, h2⟩
  by_cases e : i = j
  · subst e
    rw [List.getElem?_set] at h1
    simp only [if_true] at h1
    split at h1
    · cases h1; cases hs
    · cases h1
  · rw [List.getElem?_set_ne e] at h1
    exact ⟨j, d, h1, h2⟩
theorem get_set {i j : Nat} {s t : Slot} (h : (env.set i s)[j]? = some t) : (i = j ∧ s = t ∧ i < env.length) ∨ (i ≠ j ∧ env[j]? = some t) := by
  by_cases e : i = j
  · subst e
    rw [List.getElem?_set] at h
    simp only [if_true] at h
    split at h
    · cases h; exact .inl ⟨rfl, rfl, by assumption⟩
    · cases h
  · rw [List.getElem?_set_ne e] at h
    exact .inr ⟨e, h⟩
/-- a slot is given a value -/
theorem SRep.setVal {i : Nat} {v : V} (h : SRep T G H σ env) (r : Rep T (Nv G env σ) H v d) : SRep T G H (σ.set i (some v)) (env.set i (.val d)) := by
  have m : ∀ b, Nv G env σ b → Nv G (env.set i (.val d)) (σ.set i (some v)) b := fun b z => ⟨z.1, fun o => z.2 (own_mono rfl o)⟩
  refine ⟨by rw [List.length_set, List.length_set]; exact h.len, fun j d' q => ?_, fun j d' q => ?_, fun j k dj dk b q1 q2 z1 z2 => ?_⟩
  · rcases get_set q with ⟨rfl, e, hl⟩ | ⟨ne, e⟩
    · cases e
      exact ⟨v, by rw [List.getElem?_set_self (by rw [h.len]; exact hl)], Rep.imp m r⟩
    · obtain ⟨v', h1, h2⟩ := h.val j d' e
      exact ⟨v', by rw [List.getElem?_set_ne ne]; exact h1, Rep.imp m h2⟩
  · rcases get_set q with ⟨rfl, e, hl⟩ | ⟨ne, e⟩
    · cases e
    · obtain ⟨b, h1, h2, h3⟩ := h.own j d' e
      exact ⟨b, by rw [List.getElem?_set_ne ne]; exact h1, h2, h3.imp m⟩
  · rcases get_set q1 with ⟨rfl, e, hl⟩ | ⟨ne, e⟩
    · cases e
    · rcases get_set q2 with ⟨rfl, e', hl⟩ | ⟨ne', e'⟩
      · cases e'
      · rw [List.getElem?_set_ne ne] at z1
        rw [List.getElem?_set_ne ne'] at z2
        exact h.dis j k dj dk b e e' z1 z2
/-- a slot is forgotten -/
theorem SRep.emp (h : SRep T G H σ env) (i : Nat) : SRep T G H σ (env.set i .emp) := by
  have m : ∀ b, Nv G env σ b → Nv G (env.set i .emp) σ b := fun b z => ⟨z.1, fun o => z.2 (own_mono' rfl o)⟩
  refine ⟨by rw [List.length_set]; exact h.len, fun j d' q => ?_, fun j d' q => ?_, fun j k dj dk b q1 q2 z1 z2 => ?_⟩
  · rcases get_set q with ⟨rfl, e, hl⟩ | ⟨ne, e⟩
    · cases e
    · obtain ⟨v', h1, h2⟩ := h.val j d' e
      exact ⟨v', h1, Rep.imp m h2⟩
  · rcases get_set q with ⟨rfl, e, hl⟩ | ⟨ne, e⟩
    · cases e
    · obtain ⟨b, h1, h2, h3⟩ := h.own j d' e
      exact ⟨b, h1, h2, h3.imp m⟩
  · rcases get_set q1 with ⟨rfl, e, hl⟩ | ⟨ne, e⟩
    · cases e
    · rcases get_set q2 with ⟨rfl, e', hl⟩ | ⟨ne', e'⟩
      · cases e'
      · exact h.dis j k dj dk b e e' z1 z2
theorem SRep.forget : ∀ (fg : List Nat) {env : SEnv}, SRep T G H σ env → SRep T G H σ (Ev.forget fg env) ∧ ∀ a, Own (Ev.forget fg env) σ a → Own env σ a
  | [], _, h => ⟨h, fun _ z => z⟩
  | i :: fg, _, h => by
    obtain ⟨h1, h2⟩ := SRep.forget fg (h.emp i)
    exact ⟨h1, fun a z => own_mono' (s := .emp) rfl (h2 a z)⟩
/-- an own list becomes a value -/
theorem SRep.dem1 (h : SRep T G H σ env) {i : Nat} (e : env[i]? = some (.own d)) : SRep T G H σ (env.set i (.val d)) := by
  have m : ∀ b, Nv G env σ b → Nv G (env.set i (.val d)) σ b := fun b z => ⟨z.1, fun o => z.2 (own_mono' rfl o)⟩
  refine ⟨by rw [List.length_set]; exact h.len, fun j d' q => ?_, fun j d' q => ?_, fun j k dj dk b q1 q2 z1 z2 => ?_⟩
  · rcases get_set q with ⟨rfl, e', hl⟩ | ⟨ne, e'⟩
    · cases e'
      obtain ⟨b, h1, h2, h3⟩ := h.own i d e
      refine ⟨.ref b, h1, h3.rep m ⟨h2, ?_⟩⟩
      rintro ⟨j, dj, q1, q2⟩
      rcases get_set q1 with ⟨_, e', _⟩ | ⟨ne, e'⟩
      · cases e'
      · exact ne (h.dis i j d dj b e e' h1 q2)
    · obtain ⟨v', h1, h2⟩ := h.val j d' e'
      exact ⟨v', h1, Rep.imp m h2⟩
  · rcases get_set q with ⟨rfl, e', hl⟩ | ⟨ne, e'⟩
    · cases e'
    · obtain ⟨b, h1, h2, h3⟩ := h.own j d' e'
      exact ⟨b, h1, h2, h3.imp m⟩
  · rcases get_set q1 with ⟨rfl, e', hl⟩ | ⟨ne, e'⟩
    · cases e'
    · rcases get_set q2 with ⟨rfl, e'', hl⟩ | ⟨ne', e''⟩
      · cases e''
      · exact h.dis j k dj dk b e' e'' z1 z2
theorem set_self {i : Nat} {s : Slot} (h : env[i]? = some s) : env.set i s = env := by
  obtain ⟨hi, e⟩ := List.getElem?_eq_some_iff.mp h
  rw [← e]; exact List.set_getElem_self hi
theorem dem_none {i : Nat} {os : List Nat} (e : env[i]? = none) : demote (i :: os) env = demote os env := by
  show demote os (match env[i]? with
      | some s => env.set i s.demote
      | none => env) = _
  rw [e]
theorem dem_some {i : Nat} {os : List Nat} {s : Slot} (e : env[i]? = some s) : demote (i :: os) env = demote os (env.set i s.demote) := by
  show demote os (match env[i]? with
      | some s => env.set i s.demote
      | none => env) = _
  rw [e]
theorem SRep.dem : ∀ (os : List Nat) {env : SEnv}, SRep T G H σ env → SRep T G H σ (demote os env) ∧ ∀ a, Own (demote os env) σ a → Own env σ a
  | [], _, h => ⟨h, fun _ z => z⟩
  | i :: os, env, h => by
    cases e : env[i]? with
    | none => rw [dem_none e]; exact SRep.dem os h
    | some s =>
      rw [dem_some e]
      cases s with
      | own d =>
        obtain ⟨h1, h2⟩ := SRep.dem os (h.dem1 e)
        exact ⟨h1, fun a z => own_mono' (s := .val d) rfl (h2 a z)⟩
      | emp => rw [show env.set i (Slot.emp).demote = env from set_self e]; exact SRep.dem os h
      | val d => rw [show env.set i (Slot.val d).demote = env from set_self e]; exact SRep.dem os h
theorem dem_id : ∀ {os : List Nat}, (os.any (ownAt env)) = false → demote os env = env
  | [], _ => rfl
  | i :: os, h => by
    simp only [List.any_cons, Bool.or_eq_false_iff] at h
    show demote os (match env[i]? with
      | some s => env.set i s.demote
      | none => env) = _
    cases e : env[i]? with
    | none => exact dem_id h.2
    | some s =>
      have h1 := h.1
      unfold ownAt at h1
      rw [e] at h1
      have : env.set i s.demote = env := by
        cases s with
        | own d => cases h1
        | emp => exact set_self e
        | val d => exact set_self e
      show demote os (env.set i s.demote) = env
      rw [this]
      exact dem_id h.2
mutual
theorem Rep.flat {n : Nat} (k : ∀ a vs, N a → TupAt H a vs → N' a) : ∀ {v : V} {d : D}, Rep T N H v d → flat n d = true → Rep T N' H v d
  | _, _, .non, _ => .non
  | _, _, .bl b, _ => .bl b
  | _, _, .int i, _ => .int i
  | _, _, .str s, _ => .str s
  | _, .tup ds, .tup h g r, f => by
    cases n with
    | zero => simp [Ev.flat] at f
    | succ n => exact .tup h (k _ _ g h) (Reps.flat (n := n) k r (by simpa [Ev.flat] using f))
  | _, _, .lst h g r, f => by simp [Ev.flat] at f
  | _, _, .scr h, f => by simp [Ev.flat] at f
  | _, _, .dic h g r, f => by simp [Ev.flat] at f
  | _, _, .tab h, f => by simp [Ev.flat] at f
theorem Reps.flat {n : Nat} (k : ∀ a vs, N a → TupAt H a vs → N' a) : ∀ {v : List V} {d : List D}, Reps T N H v d → flats n d = true → Reps T N' H v d
  | _, _, .nil, _ => .nil
  | _, _, .cons h r, f => by
    simp only [Ev.flats, Bool.and_eq_true] at f
    exact .cons (Rep.flat k h f.1) (Reps.flat k r f.2)
end
theorem SRep.flatK (h : SRep T G H σ env) (os : List Nat) : ∀ a vs, Nv G (demote os env) σ a → TupAt H a vs → Nv G env σ a := fun a vs n e => ⟨n.1, fun o => (h.ownSome o).2.2 vs e⟩
/-- what a store may keep -/
theorem SRep.prep (h : SRep T G H σ env) {os : List Nat} {v : V} (r : Rep T (Nv G (demote os env) σ) H v d) : SRep T G H σ (prep os d env) ∧ (∀ a, Own (prep os d env) σ a → Own env σ a) ∧ Rep T (Nv G (Ev.prep os d env) σ) H v d := by
  unfold Ev.prep
  cases ho : os.any (ownAt env) with
  | false =>
    rw [dem_id ho] at r
    exact ⟨h, fun _ z => z, r⟩
  | true =>
    cases hf : noList d with
    | true => exact ⟨h, fun _ z => z, Rep.flat (h.flatK os) r hf⟩
    | false => exact ⟨(SRep.dem os h).1, (SRep.dem os h).2, r⟩
theorem SRep.prepL (h : SRep T G H σ env) {os : List Nat} {ds : List D} : SRep T G H σ (prepL os ds env) ∧ (∀ a, Own (prepL os ds env) σ a → Own env σ a) ∧
    ∀ {H1 : Hp} {p : Addr} {vs : List V}, Ext H H1 → H p = none → Reps T (fun b => Nv G (demote os env) σ b ∧ b ≠ p) H1 vs ds → Reps T (fun b => Nv G (Ev.prepL os ds env) σ b ∧ b ≠ p) H1 vs ds := by
  unfold Ev.prepL
  cases ho : os.any (ownAt env) with
  | false =>
    rw [dem_id ho]
    exact ⟨h, fun _ z => z, fun _ _ r => r⟩
  | true =>
    cases hf : noLists ds with
    | true => exact ⟨h, fun _ z => z, fun e hp r => Reps.flat (fun a vs n q => ⟨(h.ext e).flatK os a vs n.1 q, n.2⟩) r hf⟩
    | false => exact ⟨(SRep.dem os h).1, (SRep.dem os h).2, fun _ _ r => r⟩
/-- a slot is given a new own list -/
theorem SRep.setOwn {i : Nat} (h : SRep T G H σ env) (e : Ext H H') (hn : H a = none) (g : G a) (o : OwnAt T (fun b => Nv G env σ b ∧ b ≠ a) H' a d) :
    SRep T G H' (σ.set i (some (.ref a))) (env.set i (.own d)) ∧ ∀ b, Own (env.set i (.own d)) (σ.set i (some (.ref a))) b → Own env σ b ∨ b = a := by
  have om : ∀ b, Own (env.set i (.own d)) (σ.set i (some (.ref a))) b → Own env σ b ∨ b = a := by
    rintro b ⟨j, dj, q1, q2⟩
    rcases get_set q1 with ⟨rfl, _, hl⟩ | ⟨ne, e'⟩
    · rw [List.getElem?_set_self (by rw [h.len]; exact hl)] at q2
      cases q2
      exact .inr rfl
    · rw [List.getElem?_set_ne ne] at q2
      exact .inl ⟨j, dj, e', q2⟩
  have m : ∀ b, (Nv G env σ b ∧ b ≠ a) → Nv G (env.set i (.own d)) (σ.set i (some (.ref a))) b := fun b z => ⟨z.1.1, fun q => (om b q).elim z.1.2 z.2⟩
  have m2 : ∀ b, Al (Nv G env σ) H b → Nv G (env.set i (.own d)) (σ.set i (some (.ref a))) b := fun b z => m b ⟨z.1, fun q => z.2 (q ▸ hn)⟩
  refine ⟨⟨by rw [List.length_set, List.length_set]; exact h.len, fun j d' q => ?_, fun j d' q => ?_, fun j k dj dk b q1 q2 z1 z2 => ?_⟩, om⟩
  · rcases get_set q with ⟨rfl, e', hl⟩ | ⟨ne, e'⟩
    · cases e'
    · obtain ⟨v', h1, h2⟩ := h.val j d' e'
      exact ⟨v', by rw [List.getElem?_set_ne ne]; exact h1, Rep.imp m2 (h2.al.ext e)⟩
  · rcases get_set q with ⟨rfl, e', hl⟩ | ⟨ne, e'⟩
    · cases e'
      exact ⟨a, by rw [List.getElem?_set_self (by rw [h.len]; exact hl)], g, o.imp m⟩
    · obtain ⟨b, h1, h2, h3⟩ := h.own j d' e'
      exact ⟨b, by rw [List.getElem?_set_ne ne]; exact h1, h2, (h3.al.evo e.evo (fun _ z => e _ _ z)).imp m2⟩
  · have hno : ∀ (k : Nat) dk, env[k]? = some (.own dk) → σ[k]? = some (some (.ref a)) → False := fun k dk q z => (h.ownSome ⟨k, dk, q, z⟩).1 hn
    rcases get_set q1 with ⟨rfl, e', hl⟩ | ⟨ne, e'⟩
    · rcases get_set q2 with ⟨rfl, e'', _⟩ | ⟨ne', e''⟩
      · rfl
      · rw [List.getElem?_set_self (by rw [h.len]; exact hl)] at z1
        cases z1
        rw [List.getElem?_set_ne ne'] at z2
        exact (hno k dk e'' z2).elim
    · rcases get_set q2 with ⟨rfl, e'', hl⟩ | ⟨ne', e''⟩
      · rw [List.getElem?_set_self (by rw [h.len]; exact hl)] at z2
        cases z2
        rw [List.getElem?_set_ne ne] at z1
        exact (hno j dj e' z1).elim
      · rw [List.getElem?_set_ne ne] at z1
        rw [List.getElem?_set_ne ne'] at z2
        exact h.dis j k dj dk b e' e'' z1 z2
/-- an own list is written -/
theorem SRep.upd {x : Nat} {o : HO} {d' : D} (h : SRep T G H σ env) (hx : env[x]? = some (.own d)) (ha : σ[x]? = some (some (.ref a))) (q : OwnAt T (Nv G env σ) (upd H a o) a d') :
    SRep T G (L2.upd H a o) σ (env.set x (.own d')) ∧ (∀ b, Own (env.set x (.own d')) σ b → Own env σ b) ∧ Evo (fun b => ¬ Own env σ b) H (L2.upd H a o) := by
  have oa : Own env σ a := ⟨x, d, hx, ha⟩
  have om : ∀ b, Own (env.set x (.own d')) σ b → Own env σ b := by
    rintro b ⟨j, dj, q1, q2⟩
    rcases get_set q1 with ⟨rfl, _, hl⟩ | ⟨ne, e'⟩
    · exact ⟨x, d, hx, q2⟩
    · exact ⟨j, dj, e', q2⟩
  have m : ∀ b, Nv G env σ b → Nv G (env.set x (.own d')) σ b := fun b z => ⟨z.1, fun w => z.2 (om b w)⟩
  have ev : Evo (fun b => ¬ Own env σ b) H (L2.upd H a o) := ⟨fun b u n z => by rw [upd_ne (fun w => n (by rw [w]; exact oa))]; exact z, fun b z => by
    by_cases w : b = a
    · subst w; rw [upd_same] at z; cases z
    · rwa [upd_ne w] at z⟩
  have ev2 : Evo (Nv G env σ) H (L2.upd H a o) := ⟨fun b u n z => ev.keep b u n.2 z, ev.free⟩
  refine ⟨⟨by rw [List.length_set]; exact h.len, fun j d1 q1 => ?_, fun j d1 q1 => ?_, fun j k dj dk b q1 q2 z1 z2 => ?_⟩, om, ev⟩
  · rcases get_set q1 with ⟨rfl, e', hl⟩ | ⟨ne, e'⟩
    · cases e'
    · obtain ⟨v', h1, h2⟩ := h.val j d1 e'
      exact ⟨v', h1, Rep.imp m (Rep.evo ev2 h2)⟩
  · rcases get_set q1 with ⟨rfl, e', hl⟩ | ⟨ne, e'⟩
    · cases e'
      exact ⟨a, ha, (h.ownSome oa).2.1, q.imp m⟩
    · obtain ⟨b, h1, h2, h3⟩ := h.own j d1 e'
      have ne2 : b ≠ a := fun w => ne (h.dis x j d d1 a hx e' ha (w ▸ h1))
      exact ⟨b, h1, h2, (h3.evo ev2 (fun _ z => by rw [upd_ne ne2]; exact z)).imp m⟩
  · have back : ∀ {k : Nat} {dk : D}, (env.set x (.own d'))[k]? = some (.own dk) → ∃ d2, env[k]? = some (.own d2) := fun {k dk} z => by
      rcases get_set z with ⟨rfl, _, _⟩ | ⟨_, e'⟩
      · exact ⟨d, hx⟩
      · exact ⟨dk, e'⟩
    obtain ⟨d1, w1⟩ := back q1
    obtain ⟨d2, w2⟩ := back q2
    exact h.dis j k d1 d2 b w1 w2 z1 z2
end
end Ev

/-! Ev20: statements. -/
namespace Ev
open PySem PySem.Spec L2
open PyProof.Rows hiding St
variable {Y : Tx}

def AftS (w : Ws) (G : Addr → Prop) (D : Ends) (env : SEnv) (σ : St) (H : Hp) : R Fl → Prop
  | .ok (.nx e) => ∀ σ' H', SRep w.T G H' σ' e → Step env σ H e σ' H' → HB H' → D.nx σ' H'
  | .ok (.ct e) => ∀ σ' H', SRep w.T G H' σ' e → Step env σ H e σ' H' → HB H' → D.ct σ' H'
  | .ok (.rt d) => ∀ v H', Evo (fun a => ¬ Own env σ a) H H' → HB H' → Rep w.T G H' v d → D.rt v H'
  | .exc c => ∀ σ' H', Evo (fun a => ¬ Own env σ a) H H' → w.W (w.xc c) none σ' H'
  | .bad => False
def tS (w : Ws) (s : S) : TS := fun D σ H => ∃ G env, Fresh G H ∧ SRep w.T G H σ env ∧ AftS w G D env σ H (exec w.C s env)
def tSL (w : Ws) (s : SL) : TS := fun D σ H => ∃ G env, Fresh G H ∧ SRep w.T G H σ env ∧ AftS w G D env σ H (execL w.C s env)
section
variable {w : Ws} {G : Addr → Prop} {D : Ends} {env e1 : SEnv} {σ σ1 : St} {H H1 : Hp} {α : Type}
theorem AftS.step {r : R Fl} (h : AftS w G D env σ H r) (s : Step env σ H e1 σ1 H1) : AftS w G D e1 σ1 H1 r := by
  cases r with
  | ok f =>
    cases f with
    | nx e => exact fun σ' H' a b c => h σ' H' a (s.trans b) c
    | ct e => exact fun σ' H' a b c => h σ' H' a (s.trans b) c
    | rt d => exact fun v H' a b c => h v H' (s.evoTrans a) b c
  | exc c => exact fun σ' H' a => h σ' H' (s.evoTrans a)
  | bad => exact h
theorem AftS.bind {r : R α} {f : α → R Fl} (h : AftS w G D env σ H (r.bind f)) : AftX w σ H (fun a H' => AftS w G D env σ H' (f a)) r := by
  cases r with
  | ok a => exact fun H' e _ => AftS.step (show AftS w G D env σ H (f a) from h) (Step.of_ext e)
  | exc c => exact fun H' e => h σ H' e.evo
  | bad => exact h
end
theorem AftS.bind0 {w : Ws} {G : Addr → Prop} {D : Ends} {env : SEnv} {σ : St} {H : Hp} {α : Type} {r : R α} {f : α → R Fl} (h : AftS w G D env σ H (r.bind f)) : AftX w σ H (fun a H' => Ext H H' ∧ AftS w G D env σ H (f a)) r := by
  cases r with
  | ok a => exact fun H' e _ => ⟨e, h⟩
  | exc c => exact fun H' e => h σ H' e.evo
  | bad => exact h
/-- the wish, the heap's bounds known -/
abbrev eHB (D : Ends) : Ends := { nx := fun σ H => HB H → D.nx σ H, rt := fun v H => HB H → D.rt v H, bk := fun σ H => HB H → D.bk σ H, ct := fun σ H => HB H → D.ct σ H }
theorem sp_hb {X : Cx} {pins : List (Addr × Obj)} {D : Ends} {f : Flow} {s : Shared} (h : SP X pins (eHB D) f s) : SP X pins D f s := by
  cases f with
  | next => obtain ⟨σ', H', I, q⟩ := h; exact ⟨σ', H', I, q (Inv.hb I)⟩
  | brk => obtain ⟨σ', H', I, q⟩ := h; exact ⟨σ', H', I, q (Inv.hb I)⟩
  | cont => obtain ⟨σ', H', I, q⟩ := h; exact ⟨σ', H', I, q (Inv.hb I)⟩
  | ret u => obtain ⟨v, σ', H', I, r, q⟩ := h; exact ⟨v, σ', H', I, r, q (Inv.hb I)⟩
theorem kS {X : Cx} {st : Stmt} {t t' : TS} (h : PS X st t) (i : ∀ D σ H, σ.length = X.N.length → HB H → t' D σ H → t (eHB D) σ H) : PS X st t' := ⟨fun pins s σ H D I q => thn (h.run pins s σ H (eHB D) I (i D σ H I.len (Inv.hb I) q)) fun _ _ z => sp_hb z⟩
theorem kSs {X : Cx} {st : List Stmt} {t t' : TS} (h : PSs X st t) (i : ∀ D σ H, σ.length = X.N.length → HB H → t' D σ H → t (eHB D) σ H) : PSs X st t' := ⟨fun pins s σ H D I q => thn (h.run pins s σ H (eHB D) I (i D σ H I.len (Inv.hb I) q)) fun _ _ z => sp_hb z⟩

/-- what is known of the own exceptions' classes -/
structure XcOk (xn : Nat → Option Str) (K : PySem.W.Frag) (mg : Str → Option Value) (xc : Nat → Value) : Prop where
  one : ∀ k x, k < 2 → xn k = some x → ∃ C : Addr, xc k = .ref C ∧ mg x = some (.ref C) ∧ PySem.W.excIn K C He.veBase "ValueError.__new__" = true ∧ PySem.W.keepIn K (.ref C) = true ∧
    PySem.W.subIn K (.ref C) (.type "BaseException") = some true ∧ PySem.W.typeIn K (.ref C) = some (.type "type") ∧ ExcC K C
  both : ∀ k x, k < 2 → xn 2 = some x → ∃ y, xn k = some y
  base : ∀ x, xn 2 = some x → ∃ v, mg x = some v ∧ ∀ k, k < 2 → PySem.W.exmOne K (xc k) v = some true
  isx : ∀ k c x, k < 2 → xn 2 ≠ none → xn 0 ≠ xn 1 → xn c = some x → ∃ (v : V) (cv : Value), (mg x = some cv ∨ (mg x = none ∧ bootBuiltins x = some cv)) ∧ RelV v cv ∧ (∀ u, RelV v u → u = cv) ∧ PySem.W.kitOne K (xc k) cv = some (isExc k c)
/-- what a def's context knows -/
structure CokS (Y : Tx) (X : Cx) (w : Ws) (sc : Scope) : Prop extends Cok Y X w sc where
  scE : X.env.scope = sc
  kd : sc.kind = .function
  po : PassesOwn (model X.prog X.w) X.A X.env X.xe
  stk : X.stack = X.env :: X.outer
  frm : X.env.frame = some X.env.locals
  xs : XcOk Y.xn X.K X.mg w.xc

/-! ### name = e -/
def isComp : Expr → Bool
  | .ListComp _ _ _ _ => true
  | .SetComp _ _ _ _ => true
  | .DictComp _ _ _ _ _ => true
  | _ => false
theorem noswap {e : Expr} {t : Option Expr} {l : Nat} {env : PySem.Env} (h : isComp e = false) : swapsWith e t l env = pure false := by
  cases e <;> first | rfl | exact Bool.noConfusion (show true = false from h)
theorem swap_comp {elt : Expr} {gs : List Comprehension} {scope : Scope} {pos py : Pos} {y : Str} {l : Nat} {env : PySem.Env} : swapsWith (.ListComp elt gs scope pos) (some (.Name y py)) l env = pure (env.blockKind == .function && env.kindOf y == some .local && py.line == pos.line
      && !(scope.names.any fun (n, k) => n == y && (k == .local || k == .cell))) := rfl
theorem mE_comp {N : List Str} {e : E} {sc : Scope} {x : Expr} (m : mE Y N e sc x = true) (h : isComp x = true) : ∃ elt tg it ifs, e = .cmpr elt tg it ifs := by
  cases e <;> first
    | exact ⟨_, _, _, _, rfl⟩
    | (cases x <;> first | exact Bool.noConfusion (show false = true from h) | exact Bool.noConfusion (show false = true from m))
    | (rename_i ks vs; cases ks <;> cases vs <;> cases x <;> first | exact Bool.noConfusion (show false = true from h) | exact Bool.noConfusion (show false = true from m))
theorem ps_asgW {X : Cx} {w : Ws} {sc : Scope} {e : E} {i : Nat} {y : Str} {p pos : Pos} {x : Expr} {tv : TE} (C : CokS Y X w sc) (m1 : tgB X.N sc i y = true) (m2 : mE Y X.N e sc x = true) (hp : PE X x tv)
    (hc : ∀ elt tg it ifs, e = .cmpr elt tg it ifs → (mustTup it = true → isTupG tg = true) → ∀ σ H Q, (∀ i ∈ idx tg, i < σ.length) → tv σ H Q → tLc (tI w it) (gTgt w.T.K tg) (tF' w.mute ifs) (tE w.mute elt) (idx tg) σ H (fun x H1 => HB H1 → Q x H1)) :
    PS X (.Assign [.Name y p] x pos) (fun D σ H => tv σ H fun v H1 => D.nx (σ.set i (some v)) H1) := by
  obtain ⟨a, b, c⟩ := tgB_ok m1
  obtain ⟨l1, l2⟩ := C.loc _ b
  cases hx : isComp x with
  | false => exact ps_set C.hN a l1 hp (noswap hx) l2
  | true =>
    obtain ⟨elt, tg, it, ifs, rfl⟩ := mE_comp m2 hx
    cases x <;> try exact Bool.noConfusion (show false = true from m2)
    rename_i e' gs scope p'
    cases hb : (X.env.blockKind == .function && X.env.kindOf y == some .local && p.line == p'.line && !(scope.names.any fun (n, k) => n == y && (k == .local || k == .cell))) with
    | false =>
      exact ps_set C.hN a l1 hp (by rw [swap_comp, hb]) l2
    | true =>
      have hl : X.env.scope.names.lookup y = some .local := by
        simp only [Bool.and_eq_true] at hb
        have := hb.1.1.2
        exact (beq_iff_eq.mp this)
      obtain ⟨t, i', fs, rfl, n1, n2, n3, n4, n5, n6, mt, mg⟩ := cmpr_text m2
      refine ⟨fun pins s σ H D I h => ?_⟩
      have C' := C.toCok
      refine thn ((ps_setLc (g := gTgt X.K tg) C.calm C.hN a hl (by rw [swap_comp, hb]) ((sndIT it).pi C' n1 mt) (C'.blkOk n5) (fun s H a cl fp => pg_tgt (C'.blk s H scope cl a fp) n2) (fun s H a cl fp => (sndEL ifs).pf (C'.blk s H scope cl a fp) n3) (fun s H a cl fp => (sndE elt).pe (C'.blk s H scope cl a fp) n4) (no_set n6)).run pins s σ H (eHB D) I ?_) fun _ _ z => sp_hb z
      have eK : w.T.K = X.K := by rw [C.T]; rfl
      show tLc (tI w it) (gTgt X.K tg) (tF' w.mute ifs) (tE w.mute elt) ((ownOf X.N tg).map (·.2)) σ H (fun v H1 => HB H1 → D.nx (σ.set i (some v)) H1)
      rw [own_idx, ← eK]
      exact hc _ _ _ _ rfl mg σ H _ (fun i hi => by rw [I.len]; exact tg_ix n2 i hi) h
/-- of any value -/
theorem ps_asgE {X : Cx} {w : Ws} {sc : Scope} {e : E} {i : Nat} {y : Str} {p pos : Pos} {x : Expr} (C : CokS Y X w sc) (m1 : tgB X.N sc i y = true) (m2 : mE Y X.N e sc x = true) :
    PS X (.Assign [.Name y p] x pos) (fun D σ H => tE w e σ H fun v H1 => D.nx (σ.set i (some v)) H1) :=
  ps_asgW C m1 m2 ((sndE e).pe C.toCok m2) fun elt tg it ifs he hm σ H Q hl h => by subst he; exact lc_read hm hl (tEf_of h)
/-- of a new list, a new dict -/
theorem ps_asgF {X : Cx} {w : Ws} {sc : Scope} {e : E} {i : Nat} {y : Str} {p pos : Pos} {x : Expr} (C : CokS Y X w sc) (m1 : tgB X.N sc i y = true) (m2 : mE Y X.N e sc x = true) (m3 : isFr e = true) :
    PS X (.Assign [.Name y p] x pos) (fun D σ H => tEg w e σ H fun v H1 => D.nx (σ.set i (some v)) H1) :=
  ps_asgW C m1 m2 (frE e m3 C.toCok m2) fun elt tg it ifs he hm σ H Q hl ⟨G, env, fr, en, h⟩ => by subst he; exact lc_read hm hl ⟨G, env, fr, en, AftX.imp h fun d H' _ _ z => z.2⟩

section
variable {X : Cx} {w : Ws} {sc : Scope}
theorem s_asg {e : E} {i : Nat} {os : List Nat} {y : Str} {p pos : Pos} {x : Expr} (C : CokS Y X w sc) (m1 : tgB X.N sc i y = true) (m2 : mE Y X.N e sc x = true) : PS X (.Assign [.Name y p] x pos) (tS w (.asg i e os)) := by
  refine kS (ps_asgE C m1 m2) fun D σ H hl hb ⟨G, env, fr, sr, h⟩ => ?_
  have h : AftS w G D env σ H ((eval w.C e (vals (demote os env))).bind fun d => .ok (.nx ((prep os d env).set i (.val d)))) := h
  obtain ⟨s1, s2⟩ := SRep.dem os sr
  refine ⟨_, _, s1.fresh fr, s1.vals, (AftS.bind h).imp fun d H' e' b h' v r b' => ?_⟩
  obtain ⟨p1, p2, p3⟩ := (sr.ext e').prep r
  exact h' _ H' (p1.setVal p3) (Step.refl' fun a z => p2 a (own_mono rfl z)) b
theorem s_asgF {e : E} {i : Nat} {os : List Nat} {y : Str} {p pos : Pos} {x : Expr} (C : CokS Y X w sc) (m1 : tgB X.N sc i y = true) (m2 : mE Y X.N e sc x = true) (m3 : isFr e = true) : PS X (.Assign [.Name y p] x pos) (tS w (.asgF i e os)) := by
  refine kS (ps_asgF C m1 m2 m3) fun D σ H hl hb ⟨G, env, fr, sr, h⟩ => ?_
  have h : AftS w G D env σ H ((eval w.C e (vals (demote os env))).bind fun d => match d with
    | .lst ds => .ok (.nx ((prepL os ds env).set i (.val d)))
    | _ => .bad) := h
  obtain ⟨s1, s2⟩ := SRep.dem os sr
  refine ⟨_, _, s1.fresh fr, s1.vals, (AftS.bind0 h).imp fun d H' _ b h' => ?_⟩
  obtain ⟨e', h'⟩ := h'
  cases d <;> try exact (show False from h').elim
  rename_i ds
  refine ⟨rfl, fun a ha o b' => ?_⟩
  obtain ⟨p1, p2, p3⟩ := sr.prepL (os := os) (ds := ds)
  obtain ⟨vs, o1, o2⟩ := o
  have h' : AftS w G D env σ H (.ok (.nx ((prepL os ds env).set i (.val (.lst ds))))) := h'
  have rep : Rep w.T (Nv G (prepL os ds env) σ) H' (.ref a) (.lst ds) := .lst o1 ((p1.fresh fr) a ha) (Reps.imp (fun _ z => z.1) (p3 e' ha o2))
  exact h' _ H' ((p1.ext e').setVal rep) ⟨e'.evo, fun c z => .inl (p2 c (own_mono (s := .val (.lst ds)) rfl z))⟩ b
theorem s_asgO {e : E} {i : Nat} {os : List Nat} {y : Str} {p pos : Pos} {x : Expr} (C : CokS Y X w sc) (m1 : tgB X.N sc i y = true) (m2 : mE Y X.N e sc x = true) (m3 : isFr e = true) : PS X (.Assign [.Name y p] x pos) (tS w (.asgO i e os)) := by
  refine kS (ps_asgF C m1 m2 m3) fun D σ H hl hb ⟨G, env, fr, sr, h⟩ => ?_
  have h : AftS w G D env σ H ((eval w.C e (vals (demote os env))).bind fun d => match d with
    | .lst ds => .ok (.nx ((prepL os ds env).set i (.own d)))
    | .dic [] => .ok (.nx (env.set i (.own d)))
    | _ => .bad) := h
  obtain ⟨s1, s2⟩ := SRep.dem os sr
  refine ⟨_, _, s1.fresh fr, s1.vals, (AftS.bind0 h).imp fun d H' _ b h' => ?_⟩
  obtain ⟨e', h'⟩ := h'
  cases d <;> try exact (show False from h').elim
  · rename_i ds
    refine ⟨rfl, fun a ha o b' => ?_⟩
    obtain ⟨p1, p2, p3⟩ := sr.prepL (os := os) (ds := ds)
    obtain ⟨vs, o1, o2⟩ := o
    obtain ⟨q1, q2⟩ := p1.setOwn (i := i) (d := .lst ds) e' ha (fr a ha) ⟨vs, o1, p3 e' ha o2⟩
    have h' : AftS w G D env σ H (.ok (.nx ((prepL os ds env).set i (.own (.lst ds))))) := h'
    exact h' _ H' q1 ⟨e'.evo, fun c z => by
      rcases q2 c z with z | z
      · exact .inl (p2 c z)
      · exact .inr (by rw [z]; exact ha)⟩ b
  · rename_i kvs
    cases kvs with
    | cons _ _ => exact (show False from h').elim
    | nil =>
      refine ⟨rfl, fun a ha o b' => ?_⟩
      obtain ⟨xs, o1, o2⟩ := o
      cases o2
      obtain ⟨q1, q2⟩ := sr.setOwn (i := i) (d := .dic []) e' ha (fr a ha) ⟨[], o1, .nil⟩
      have h' : AftS w G D env σ H (.ok (.nx (env.set i (.own (.dic []))))) := h'
      exact h' _ H' q1 ⟨e'.evo, fun c z => by
        rcases q2 c z with z | z
        · exact .inl z
        · exact .inr (by rw [z]; exact ha)⟩ b
end
end Ev

/-! Ev21: targets; append, extend, pop, stores. -/
namespace Ev
open PySem PySem.Spec L2
open PyProof.Rows hiding St
variable {Y : Tx}

section
variable {T : Wd} {G : Addr → Prop} {H : Hp}
theorem go_ok : ∀ (is : List Nat) (vs : List V) (ds : List D) (σ : St) (env : SEnv), SRep T G H σ env → Reps T (Nv G env σ) H vs ds → ds.length = is.length →
    SRep T G H (setSt is vs σ) (setTS.go is ds env) ∧ ∀ a, Own (setTS.go is ds env) (setSt is vs σ) a → Own env σ a
  | [], vs, ds, σ, env, sr, r, hl => by
    have e := List.eq_nil_of_length_eq_zero hl
    subst e
    cases r
    exact ⟨sr, fun _ z => z⟩
  | i :: is, _, _, σ, env, sr, .cons (v := v) (d := d) (vs := vs) (ds := ds) r rs, hl => by
    have m : ∀ b, Nv G env σ b → Nv G (env.set i (.val d)) (σ.set i (some v)) b := fun b z => ⟨z.1, fun o => z.2 (own_mono rfl o)⟩
    obtain ⟨h1, h2⟩ := go_ok is vs ds (σ.set i (some v)) (env.set i (.val d)) (sr.setVal r) (Reps.imp m rs) (by simpa using hl)
    exact ⟨h1, fun a z => own_mono (s := .val d) rfl (h2 a z)⟩
  | _ :: _, _, _, _, _, _, .nil, hl => by simp at hl
theorem tgS_ok {tg : TG} {m : Bool} {v : V} {d : D} {σ : St} {env env' : SEnv} {Q : St → Hp → Prop} (hm : m = true → isTupG tg = true) (sr : SRep T G H σ env) (r : RepM T (Nv G env σ) H m v d) (e : setTS tg d env = .ok env')
    (h : ∀ σ', SRep T G H σ' env' → (∀ a, Own env' σ' a → Own env σ a) → Q σ' H) : gTgt T.K tg v σ H Q := by
  cases tg with
  | one i =>
    cases (show R.ok (env.set i (.val d)) = .ok env' from e)
    exact h _ (sr.setVal (r.one (by cases m with
      | false => rfl
      | true => exact absurd (hm rfl) (by simp [isTupG])))) fun a z => own_mono (s := .val d) rfl z
  | tup is =>
    cases d <;> try (exact absurd (show (R.bad : R SEnv) = .ok env' from e) (by intro q; cases q))
    rename_i ds
    obtain ⟨a, b⟩ := chk_ok (show chk (decide (ds.length = is.length)) (.ok (setTS.go is ds env)) = .ok env' from e)
    have a := of_decide_eq_true a
    cases b
    obtain ⟨p, vs, rfl, hp, rs⟩ := r.tup
    have hl := rs.length
    obtain ⟨h1, h2⟩ := go_ok is vs ds σ env sr rs a
    exact ⟨p, vs, rfl, hp, by rw [hl, a], by rw [hl, a], h _ h1 h2⟩
theorem setTS_ne {tg : TG} {d : D} {env : SEnv} {c : Nat} : setTS tg d env ≠ .exc c := by
  cases tg with
  | one i => exact ok_ne
  | tup is => cases d <;> first | exact bad_ne | exact chk_ne ok_ne
end
def isTupE : Expr → Bool
  | .Tuple _ _ _ => true
  | _ => false
theorem noswapT {e t : Expr} {l : Nat} {env : PySem.Env} (h : isTupE t = true) : swapsWithSole [t] e l env = pure false := by
  cases t <;> first | exact Bool.noConfusion (show false = true from h) | (cases e <;> rfl)
theorem nostoresT {e t : Expr} {env : PySem.Env} (h : isTupE e = false) : swappedStores [t] e env = pure none := by
  cases e <;> first | exact Bool.noConfusion (show true = false from h) | (cases t <;> rfl)
/-- a pair of constants is folded: it is one constant, unpacked -/
def foldE : Expr → Bool
  | .Tuple vs _ _ => vs.all (foldedForSure 8)
  | _ => false
theorem nostoresF {e t : Expr} {env : PySem.Env} (h : foldE e = true) : swappedStores [t] e env = pure none := by
  cases e <;> try exact Bool.noConfusion (show false = true from h)
  rename_i vs k p
  replace h : vs.all (foldedForSure 8) = true := h
  unfold swappedStores
  cases t <;> try rfl
  all_goals
    dsimp only
    repeat' split
    all_goals first | rfl | (exfalso; rename_i hn _; exact hn h) | (exfalso; rename_i hn; exact hn h)
section
variable {X : Cx} {w : Ws} {sc : Scope}
theorem aftS_chk {G : Addr → Prop} {D : Ends} {env : SEnv} {σ : St} {H : Hp} {b : Bool} {r : R Fl} (h : AftS w G D env σ H (chk b r)) : b = true ∧ AftS w G D env σ H r := by
  cases b with
  | true => exact ⟨rfl, h⟩
  | false => exact h.elim
theorem s_asgT {e : E} {is os : List Nat} {t x : Expr} {pos : Pos} (C : CokS Y X w sc) (m1 : mTG X.N sc (.tup is) t = true) (m2 : mE Y X.N e sc x = true) (m3 : swappedStores [t] x X.env = pure none) : PS X (.Assign [t] x pos) (tS w (.asgT is e os)) := by
  have ht : isTupE t = true := by cases t <;> first | rfl | exact Bool.noConfusion (show false = true from m1)
  have h1 : (assignEach [t] X.env).map (·.2) = [assign t X.env] := by cases t <;> first | rfl | exact Bool.noConfusion (show false = true from m1)
  refine kS (ps_asg ((sndE e).pe C.toCok m2) (pg_tgt C.toCok m1) (noswapT ht) m3 h1) fun D σ H hl hb ⟨G, env, fr, sr, h⟩ => ?_
  have h : AftS w G D env σ H ((eval w.C e (vals (demote os env))).bind fun d => (setTS (.tup is) d (prep os d env)).bind fun env' => .ok (.nx env')) := h
  obtain ⟨s1, s2⟩ := SRep.dem os sr
  refine ⟨_, _, s1.fresh fr, s1.vals, (AftS.bind h).imp fun d H' e' b h' v r => ?_⟩
  obtain ⟨p1, p2, p3⟩ := (sr.ext e').prep r
  have eK : w.T.K = X.K := by rw [C.T]; rfl
  rw [← eK]
  cases es : setTS (.tup is) d (prep os d env) with
  | exc c => exact absurd es setTS_ne
  | bad => rw [es] at h'; exact h'.elim
  | ok env' =>
    rw [es] at h'
    exact tgS_ok (m := false) (fun z => by cases z) p1 p3 es fun σ' q1 q2 b' => h' σ' H' q1 (Step.refl' fun a z => p2 a (q2 a z)) b
/-- a, b = a new list -/
theorem s_asgL {e : E} {is os : List Nat} {t x : Expr} {pos : Pos} (C : CokS Y X w sc) (m1 : mTG X.N sc (.tup is) t = true) (m2 : mE Y X.N e sc x = true) (m3 : swappedStores [t] x X.env = pure none) : PS X (.Assign [t] x pos) (tS w (.asgL is e os)) := by
  cases t <;> try exact Bool.noConfusion (show false = true from m1)
  rename_i es ke pe
  obtain ⟨g, gn, gf⟩ := pgs_names C.toCok m1
  refine kS (ps_asg ((sndE e).pe C.toCok m2) (pg_unl C.calm g gn gf) (noswapT rfl) m3 rfl) fun D σ H hl hb ⟨G, env, fr, sr, h⟩ => ?_
  have h : AftS w G D env σ H ((eval w.C e (vals (demote os env))).bind fun d => (setTS (.tup is) (unL d) (prep os d env)).bind fun env' => .ok (.nx env')) := h
  obtain ⟨s1, s2⟩ := SRep.dem os sr
  refine ⟨_, _, s1.fresh fr, s1.vals, (AftS.bind h).imp fun d H' e' b h' v r => ?_⟩
  obtain ⟨p1, p2, p3⟩ := (sr.ext e').prep r
  cases es' : setTS (.tup is) (unL d) (prep os d env) with
  | exc c => exact absurd es' setTS_ne
  | bad => rw [es'] at h'; exact h'.elim
  | ok env' =>
    rw [es'] at h'
    cases d <;> try (exact absurd (show (R.bad : R SEnv) = .ok env' from es') (by intro q; cases q))
    rename_i ds
    obtain ⟨a, b'⟩ := chk_ok (show chk (decide (ds.length = is.length)) (.ok (setTS.go is ds (prep os (.lst ds) env))) = .ok env' from es')
    have a := of_decide_eq_true a
    cases b'
    cases p3 with
    | @lst p vs _ hp gp rs =>
      have hl := rs.length
      obtain ⟨h1, h2⟩ := go_ok is vs ds σ _ p1 rs a
      exact ⟨p, vs, rfl, SqL.of hp, by rw [hl, a], by rw [hl, a], fun b2 => h' _ _ h1 (Step.refl' fun a z => p2 a (h2 a z)) b2⟩
theorem fewA {X : Cx} {a : Expr} {cp : Pos} (h : isStar a = false) : ((backTo cp (starEach [a] X.env)).all (fun x => !x.1) && (backToKw cp (keywordEach [] X.env)).all (fun x => x.1.isSome)
      && decide ([a].length + ([] : List Keyword).length + (if ([] : List Keyword).isEmpty then 0 else 1) < 30)) = true := by
  rw [star_cons h]; rfl
theorem vr_of {N : List Str} {i : Nat} {y : Str} (h : vrB N sc i y = true) : N[i]? = some y ∧ visB sc y = true ∧ okN y = true := by
  obtain ⟨a, b, c⟩ := and3 h
  exact ⟨of_decide_eq_true a, b, c⟩
theorem ownL_ok {G : Addr → Prop} {B : Ends} {env : SEnv} {σ : St} {H : Hp} {x : Nat} {f : List D → R Fl} {T : Wd} (sr : SRep w.T G H σ env) : (h : AftS w G B env σ H (ownL env x f)) →
    ∃ ds a vs, env[x]? = some (.own (.lst ds)) ∧ σ[x]? = some (some (.ref a)) ∧ H a = some (.lst vs) ∧ Reps w.T (Nv G env σ) H vs ds ∧ AftS w G B env σ H (f ds) := by
  intro h
  unfold ownL at h
  split at h
  · rename_i ds e
    obtain ⟨a, h1, h2, vs, h3, h4⟩ := sr.own x _ e
    exact ⟨ds, a, vs, e, h1, h3, h4, h⟩
  · exact h.elim
theorem s_app {e : E} {x : Nat} {os : List Nat} {y : Str} {q ap cp pos : Pos} {a : Expr} (C : CokS Y X w sc) (m1 : vrB X.N sc x y = true) (m2 : mE Y X.N e sc a = true) (m3 : isStar a = false) (m4 : (ap.endLine == cp.line) = true) :
    PS X (.Expr (.Call (.Attribute (.Name y q) "append" ap) [a] [] cp) pos) (tS w (.app x e os)) := by
  obtain ⟨n1, n2, n3⟩ := vr_of m1
  obtain ⟨o1, o2, o3⟩ := okN_of n3
  have pv := pe_var (pos := q) n1 (C.vis _ n2) o1 o2
  refine kS (ps_expr (pe_bm PySem.F.plainAttrs_list PySem.F.slot_list_append PySem.F.type_list_append mt_append pv (pa_cons ((sndE e).pe C.toCok m2) pa_nil (star_cons m3)) rfl (fewA m3) m4 (star_cons m3) rfl)) fun D σ H hl hb ⟨G, env, fr, sr, h⟩ => ?_
  have h : AftS w G D env σ H (ownL env x fun ds => (eval w.C e (vals (demote os env))).bind fun d => chk (!(os.any (ownAt env)) || noList d) (chk (decide (ds.length < LIM)) (.ok (.nx (env.set x (.own (.lst (ds ++ [d])))))))) := h
  obtain ⟨ds, l, vs, hx, hσ, hH, hr, h⟩ := ownL_ok (T := w.T) sr h
  obtain ⟨s1, s2⟩ := SRep.dem os sr
  refine ⟨_, hσ, .inl ⟨rfl, vs, SqL.of hH⟩, _, _, s1.fresh fr, s1.vals, (AftS.bind h).imp fun d H' e' b h' v r => ?_⟩
  obtain ⟨c1, h'⟩ := aftS_chk h'
  obtain ⟨c2, h'⟩ := aftS_chk h'
  have c2 := of_decide_eq_true c2
  have hH' := e' _ _ hH
  have sr' := sr.ext e'
  have rv : Rep w.T (Nv G env σ) H' v d := by
    cases ho : os.any (ownAt env) with
    | false => rw [dem_id ho] at r; exact r
    | true =>
      rw [ho] at c1
      exact Rep.flat (sr'.flatK os) r c1
  have own : Own env σ l := ⟨x, _, hx, hσ⟩
  have ev : Evo (Nv G env σ) H' (upd H' l (.lst (vs ++ [v]))) := ⟨fun b o n z => by rw [upd_ne (fun w => n.2 (by rw [w]; exact own))]; exact z, fun b z => by
    by_cases w : b = l
    · subst w; rw [upd_same] at z; cases z
    · rwa [upd_ne w] at z⟩
  obtain ⟨q1, q2, q3⟩ := sr'.upd (o := .lst (vs ++ [v])) (d' := .lst (ds ++ [d])) hx hσ ⟨_, upd_same, Reps.evo ev ((hr.ext e').append (.cons rv .nil))⟩
  refine ⟨l, vs, v, rfl, rfl, hH', by rw [hr.length, ← LIM_eq]; exact c2, fun b' => h' σ _ q1 ⟨q3, fun c z => .inl (q2 c z)⟩ b'⟩
theorem evo_own {G : Addr → Prop} {env : SEnv} {σ : St} {H : Hp} {l : Addr} {o : HO} (own : Own env σ l) : Evo (Nv G env σ) H (upd H l o) := ⟨fun b u n z => by rw [upd_ne (fun w => n.2 (by rw [w]; exact own))]; exact z, fun b z => by
    by_cases w : b = l
    · subst w; rw [upd_same] at z; cases z
    · rwa [upd_ne w] at z⟩
theorem ext_tup (l : Addr) (items : Array Value) (n : Nat) (b : Addr) (items2 : Array Value) (n2 : Nat) (dd : Option Addr) (sl : Array (Option Value)) (hs0 : ¬(!items.isEmpty && Builtin.List.listTooLong (items.size + items2.size)) = true) (hs1 : items.size ≤ sizeLine) (hs2 : items.size + items2.size ≤ sizeLine + 1) :
    Meets (Builtin.«list.extend» ⟨[.ref l, .ref b], []⟩) (fun _ R s => s.heap.get? l = some { cls := .type "list", dict := none, data := .seq items n, slots := #[] } ∧ s.heap.get? b = some { cls := .type "tuple", dict := dd, data := .seq items2 n2, slots := sl } ∧ R (.ok (.ret Value.none)) { s with heap := s.heap.update l (Obj.mapSeq fun x => x ++ items2), toks := s.toks }) :=
  .of_wp fun prog w A R s h => by
    obtain ⟨hp, g, d, tk, os⟩ := s; obtain ⟨hl, hb, h⟩ := h
    have hz' : (items ++ items2).size ≤ sizeLine + 1 := by rw [Array.size_append]; exact hs2
    wp_walk using (wpAny_updateSeq hl rfl (hz := hs1) (_hz' := hz')), wpAny_loadPart' hl, wpAny_loadPart' hb; exact ⟨_, rfl, h⟩
/-- extend by a tuple -/
def rExtT (K : PySem.W.Frag) : V → List V → Hp → VK → Prop := fun x vs H Q => ∃ l b xs zs, x = .ref l ∧ vs = [.ref b] ∧ H l = some (.lst xs) ∧ SqT K H b zs ∧ xs.length + zs.length ≤ sizeLine ∧ Q .non (upd H l (.lst (xs ++ zs)))
theorem mt_extendT {X : Cx} : MtM X "list.extend" (rExtT X.K) := by
  intro pins s σ H x vs v us Q I rx rv h
  obtain ⟨l, b, xs, zs, rfl, rfl, hH, hB, hz, q⟩ := h
  cases rx
  obtain ⟨u, rfl, ru⟩ := rv.one
  cases ru
  obtain ⟨z, its, n, r, hl, e⟩ := I.lstM hH
  obtain ⟨its2, r2, ⟨o2, e2, c2, n2, d2⟩, z2⟩ := I.tuple hB
  have hl2 := r2.length
  have hsz : its.toArray.size + its2.toArray.size ≤ sizeLine := by rw [List.size_toArray, List.size_toArray]; omega
  have hlong : ¬ (!its.toArray.isEmpty && Builtin.List.listTooLong (its.toArray.size + its2.toArray.size)) = true := by
    rw [notLongL hsz, Bool.and_false]
    exact Bool.false_ne_true
  obtain ⟨oc, od, dt, sl⟩ := o2
  simp only at c2 d2
  subst c2 d2
  refine call_meets PySem.F.slot_list_extend ⟨_, e, rfl⟩ PySem.F.entry_list_extend (PySem.F.args_list_extend_2 _ _)
    (ext_tup l its.toArray n b its2.toArray n2 od sl hlong (by rw [List.size_toArray]; omega) (by omega)) ⟨e, e2, ?_⟩
  refine ⟨.non, _, I.lset (its' := its ++ its2) hH e (by simp) (r.append r2) ?_, rfl, q⟩
  rw [List.length_append]
  omega
end
end Ev

/-! Ev22: extend, stores, pop. -/
namespace Ev
open PySem PySem.Spec L2
open PyProof.Rows hiding St
variable {Y : Tx}
section
variable {X : Cx} {w : Ws} {sc : Scope}
theorem ps_by {st : Stmt} {t : TS} (h : ∀ pins s σ H D, Inv X pins σ H s → t D σ H → ∃ t', PS X st t' ∧ t' D σ H) : PS X st t :=
  ⟨fun pins s σ H D I q => let ⟨t', p, q'⟩ := h pins s σ H D I q; p.run pins s σ H D I q'⟩
theorem psHB {st : Stmt} {t : TS} (h : PS X st t) : PS X st (fun B σ H => t (eHB B) σ H) := kS h fun _ _ _ _ _ z => z
theorem sqs_ne {d : D} {c : Nat} : sqs d ≠ .exc c := by
  cases d <;> first | exact ok_ne | exact bad_ne
/-- the state behind a write to the own list -/
theorem wrote {G : Addr → Prop} {B : Ends} {env : SEnv} {σ : St} {H' : Hp} {x : Nat} {l : Addr} {d d' : D} {o : HO} (sr : SRep w.T G H' σ env) (hx : env[x]? = some (.own d)) (hσ : σ[x]? = some (some (.ref l)))
    (q : OwnAt w.T (Nv G env σ) (upd H' l o) l d') (h : AftS w G B env σ H' (.ok (.nx (env.set x (.own d'))))) (b : HB (upd H' l o)) : B.nx σ (upd H' l o) := by
  obtain ⟨q1, q2, q3⟩ := sr.upd hx hσ q
  exact h σ _ q1 ⟨q3, fun c z => .inl (q2 c z)⟩ b
theorem s_ext {e : E} {x : Nat} {os : List Nat} {y : Str} {q ap cp pos : Pos} {a : Expr} (C : CokS Y X w sc) (m1 : vrB X.N sc x y = true) (m2 : mE Y X.N e sc a = true) (m3 : isStar a = false) (m4 : (ap.endLine == cp.line) = true) :
    PS X (.Expr (.Call (.Attribute (.Name y q) "extend" ap) [a] [] cp) pos) (tS w (.ext x e os)) := by
  obtain ⟨n1, n2, n3⟩ := vr_of m1
  obtain ⟨o1, o2, o3⟩ := okN_of n3
  have pv := pe_var (pos := q) n1 (C.vis _ n2) o1 o2
  have pa := pa_cons ((sndE e).pe C.toCok m2) pa_nil (star_cons m3)
  have eK : w.T.K = X.K := by rw [C.T]; rfl
  have PL : PS X (.Expr (.Call (.Attribute (.Name y q) "extend" ap) [a] [] cp) pos) _ := ps_expr (pe_bm PySem.F.plainAttrs_list PySem.F.slot_list_extend PySem.F.type_list_extend mt_extend pv pa rfl (fewA m3) m4 (star_cons m3) rfl)
  have PT : PS X (.Expr (.Call (.Attribute (.Name y q) "extend" ap) [a] [] cp) pos) _ := ps_expr (pe_bm PySem.F.plainAttrs_list PySem.F.slot_list_extend PySem.F.type_list_extend mt_extendT pv pa rfl (fewA m3) m4 (star_cons m3) rfl)
  refine ps_by fun pins s σ H B I ⟨G, env, fr, sr, h⟩ => ?_
  have h : AftS w G B env σ H (ownL env x fun ds => (eval w.C e (vals (demote os env))).bind fun d => (sqs d).bind fun es => chk (!(os.any (ownAt env)) || noLists es) (chk (decide (ds.length + es.length ≤ LIM)) (.ok (.nx (env.set x (.own (.lst (ds ++ es)))))))) := h
  obtain ⟨ds, l, vs, hx, hσ, hH, hr, h⟩ := ownL_ok (T := w.T) sr h
  obtain ⟨s1, s2⟩ := SRep.dem os sr
  have own : Own env σ l := ⟨x, _, hx, hσ⟩
  have main : ∀ {es : List D} {us : List V} {H' : Hp}, Ext H H' → HB H' → Reps w.T (Nv G (demote os env) σ) H' us es → AftS w G B env σ H' (chk (!(os.any (ownAt env)) || noLists es) (chk (decide (ds.length + es.length ≤ LIM)) (.ok (.nx (env.set x (.own (.lst (ds ++ es))))))))
      → vs.length + us.length ≤ sizeLine ∧ (HB (upd H' l (.lst (vs ++ us))) → B.nx σ (upd H' l (.lst (vs ++ us)))) := fun {es us H'} e' hb r h' => by
    obtain ⟨c1, h'⟩ := aftS_chk h'
    obtain ⟨c2, h'⟩ := aftS_chk h'
    have c2 := of_decide_eq_true c2
    have sr' := sr.ext e'
    have rv : Reps w.T (Nv G env σ) H' us es := by
      cases ho : os.any (ownAt env) with
      | false => rw [dem_id ho] at r; exact r
      | true =>
        rw [ho] at c1
        exact Reps.flat (sr'.flatK os) r c1
    exact ⟨by rw [hr.length, rv.length, ← LIM_eq]; exact c2, fun b' => wrote (d' := .lst (ds ++ es)) sr' hx hσ ⟨_, upd_same, Reps.evo (evo_own own) ((hr.ext e').append rv)⟩ h' b'⟩
  cases ev : eval w.C e (vals (demote os env)) with
  | bad => rw [ev] at h; exact h.elim
  | exc c =>
    rw [ev] at h
    refine ⟨_, psHB PL, _, hσ, .inl ⟨rfl, vs, SqL.of hH⟩, _, _, s1.fresh fr, s1.vals, ?_⟩
    rw [ev]
    exact fun H' e' => h σ H' e'.evo
  | ok d =>
    rw [ev] at h
    replace h : AftS w G B env σ H ((sqs d).bind fun es => chk (!(os.any (ownAt env)) || noLists es) (chk (decide (ds.length + es.length ≤ LIM)) (.ok (.nx (env.set x (.own (.lst (ds ++ es)))))))) := h
    cases d <;> try exact (show False from h).elim
    · rename_i es
      refine ⟨_, psHB PT, _, hσ, .inl ⟨rfl, vs, SqL.of hH⟩, _, _, s1.fresh fr, s1.vals, ?_⟩
      rw [ev]
      intro H' e' b' v r
      cases r with
      | @tup b us _ hb g rs =>
        obtain ⟨m1, m2⟩ := main e' b' rs (AftS.step (r := chk (!(os.any (ownAt env)) || noLists es) (chk (decide (ds.length + es.length ≤ LIM)) (.ok (.nx (env.set x (.own (.lst (ds ++ es)))))))) h (Step.of_ext e'))
        exact ⟨l, b, vs, us, rfl, rfl, e' _ _ hH, hb.sq, m1, m2⟩
    · rename_i es
      refine ⟨_, psHB PL, _, hσ, .inl ⟨rfl, vs, SqL.of hH⟩, _, _, s1.fresh fr, s1.vals, ?_⟩
      rw [ev]
      intro H' e' b' v r
      cases r with
      | @lst b us _ hb g rs =>
        obtain ⟨m1, m2⟩ := main e' b' rs (AftS.step (r := chk (!(os.any (ownAt env)) || noLists es) (chk (decide (ds.length + es.length ≤ LIM)) (.ok (.nx (env.set x (.own (.lst (ds ++ es)))))))) h (Step.of_ext e'))
        exact ⟨l, b, vs, us, rfl, rfl, e' _ _ hH, hb, m1, m2⟩
/-- y = x.pop() -/
theorem s_pop {x i : Nat} {y z : Str} {q p ap cp pos : Pos} (C : CokS Y X w sc) (m1 : vrB X.N sc x y = true) (m2 : tgB X.N sc i z = true) (m4 : (ap.endLine == cp.line) = true) :
    PS X (.Assign [.Name z p] (.Call (.Attribute (.Name y q) "pop" ap) [] [] cp) pos) (tS w (.pop i x)) := by
  obtain ⟨n1, n2, n3⟩ := vr_of m1
  obtain ⟨o1, o2, o3⟩ := okN_of n3
  have pv := pe_var (pos := q) n1 (C.vis _ n2) o1 o2
  obtain ⟨a1, b1, c1⟩ := tgB_ok m2
  obtain ⟨l1, l2⟩ := C.loc _ b1
  have pe : PE X (.Call (.Attribute (.Name y q) "pop" ap) [] [] cp) _ := pe_bm0 PySem.F.plainAttrs_list PySem.F.slot_list_pop PySem.F.type_list_pop mt_pop pv rfl m4
  refine kS (ps_set C.hN a1 l1 pe rfl l2) fun B σ H hl hb ⟨G, env, fr, sr, h⟩ => ?_
  have h : AftS w G B env σ H (ownL env x fun ds => match ds.getLast? with
    | some d => .ok (.nx ((env.set x (.own (.lst ds.dropLast))).set i (.val d)))
    | none => .bad) := h
  obtain ⟨ds, l, vs, hx, hσ, hH, hr, h⟩ := ownL_ok (T := w.T) sr h
  have own : Own env σ l := ⟨x, _, hx, hσ⟩
  cases hg : ds.getLast? with
  | none => rw [hg] at h; exact h.elim
  | some d =>
    rw [hg] at h
    have h : AftS w G B env σ H (.ok (.nx ((env.set x (.own (.lst ds.dropLast))).set i (.val d)))) := h
    have hl2 := hr.length
    rw [List.getLast?_eq_getElem?] at hg
    obtain ⟨v, hv, rv⟩ := hr.get hg
    rw [← hl2] at hv
    have drop : Reps w.T (Nv G env σ) H vs.dropLast ds.dropLast := by
      rw [List.dropLast_eq_take, List.dropLast_eq_take, hl2]
      exact hr.take _
    refine ⟨_, hσ, .inl ⟨rfl, vs, SqL.of hH⟩, l, vs, v, rfl, rfl, hH, hv, ?_⟩
    obtain ⟨q1, q2, q3⟩ := sr.upd (o := .lst vs.dropLast) (d' := .lst ds.dropLast) hx hσ ⟨_, upd_same, Reps.evo (evo_own own) drop⟩
    have q4 := q1.setVal (i := i) (v := v) (d := d) (Rep.imp (fun b z => ⟨z.1, fun o => z.2 (q2 b o)⟩) (Rep.evo (evo_own own) rv))
    exact fun b => h _ _ q4 ⟨q3, fun c z => .inl (q2 c (own_mono (s := .val d) rfl z))⟩ b
end
end Ev

/-! Ev23: o[i] = v; if, return, for, while; blocks. -/
namespace Ev
open PySem PySem.Spec L2
open PyProof.Rows hiding St
variable {Y : Tx}
section
variable {X : Cx} {w : Ws} {sc : Scope}
theorem storeV_len {xs : List (NestedKey × Addr × V)} {k : NestedKey} {a : Addr} {v : V} : (storeV xs k a v).length ≤ xs.length + 1 := by
  unfold storeV
  split
  · rw [List.length_map]; omega
  · rw [List.length_append]; simp
def rSetDic (X : Cx) : TSet := fun o i v H Q => ∃ G a ai xs kvs k, o = .ref a ∧ i = .ref ai ∧ DicObj X.prog X.w H a xs ∧ Repk (.of X) G H xs kvs ∧ Rep (.of X) G H (.ref ai) k ∧ keyT k = true ∧ xs.length < sizeLine ∧
  ∀ ob : HO, (∀ H', H' a = some ob → DicObj X.prog X.w H' a (storeV xs (nk k) ai v)) → Q (upd H a ob)
theorem set_dic (hu : X.A.units + 80 < cLine) : PSet X (rSetDic X) := by
  intro pins s σ H o i v ov iv u Q I ro ri rv ⟨G, a, ai, xs, kvs, k, e1, e2, ho, rk, ra, hk, hz, q⟩
  subst e1 e2
  cases ro
  cases ri
  obtain ⟨hn, ys, yr, m⟩ := dic_of I ho rk
  have hl : ys.length = xs.length := (Paired.length yr).symm
  refine wpAny_setItem_heap (hsz := by rw [hl]; omega) (show X.A.units + 1 + 8 < cLine by omega) (key_is I ra hk) m fun h' hm' hs' => ?_
  obtain ⟨ob, ho', hx'⟩ := obj_of (H := H) (xs := storeV xs (nk k) ai v) hn (Nat.le_trans storeV_len hz) (yrel_store rv yr) hm'
  obtain ⟨_, _, o0, _, _, e0, _⟩ := id ho
  obtain ⟨o1, _, _, e1, _⟩ := id hm'
  refine ⟨_, I.write (x := a) (e := a) (by rw [e0]; trivial) (.inl rfl) (fun b u hb z => (hs'.2 b hb).trans z) ⟨o1, e1⟩ (ho' _), q ob fun H' z => hx' H' z⟩
theorem sub_assign {o i : Expr} {pos : Pos} {env : PySem.Env} (h : isSl i = false) (v : Value) : assign (.Subscript o i pos) env v = (do
      let ov ← holding [v] (PySem.eval o env)
      let iv ← holding [v, ov] (PySem.eval i env)
      standAt pos
      holding [v, ov, iv] (setItem ov iv v)
      release [v, ov, iv] []) := by
  cases i <;> first | rfl | exact Bool.noConfusion (show true = false from h)
theorem nostoresS {e o i : Expr} {p : Pos} {env : PySem.Env} : swappedStores [.Subscript o i p] e env = pure none := by
  cases e <;> rfl
theorem noswapS {e o i : Expr} {p : Pos} {l : Nat} {env : PySem.Env} : swapsWithSole [.Subscript o i p] e l env = pure false := by
  cases e <;> rfl
theorem rep_keep {G : Addr → Prop} {env : SEnv} {σ : St} {H : Hp} {os : List Nat} {v : V} {d : D} (sr : SRep w.T G H σ env) (r : Rep w.T (Nv G (demote os env) σ) H v d) (c : (!(os.any (ownAt env)) || noList d) = true) : Rep w.T (Nv G env σ) H v d := by
  cases ho : os.any (ownAt env) with
  | false => rw [dem_id ho] at r; exact r
  | true =>
    rw [ho] at c
    exact Rep.flat (sr.flatK os) r c
theorem s_setI {e i : E} {x : Nat} {os : List Nat} {y : Str} {q p pos : Pos} {xe xi : Expr} (C : CokS Y X w sc) (m1 : vrB X.N sc x y = true) (m2 : mE Y X.N e sc xe = true) (m3 : mE Y X.N i sc xi = true) (m4 : isSl xi = false) :
    PS X (.Assign [.Subscript (.Name y q) xi p] xe pos) (tS w (.setI x i e os)) := by
  obtain ⟨n1, n2, n3⟩ := vr_of m1
  obtain ⟨o1, o2, o3⟩ := okN_of n3
  have pv := pe_var (pos := q) n1 (C.vis _ n2) o1 o2
  have pi := (sndE i).pe C.toCok m3
  have pe := (sndE e).pe C.toCok m2
  have PL : PS X (.Assign [.Subscript (.Name y q) xi p] xe pos) _ := ps_asg pe (pg_sub pv pi set_list (fun v => sub_assign m4 v)) noswapS nostoresS rfl
  have PD : PS X (.Assign [.Subscript (.Name y q) xi p] xe pos) _ := ps_asg pe (pg_sub pv pi (set_dic C.hu) (fun v => sub_assign m4 v)) noswapS nostoresS rfl
  refine ps_by fun pins s σ H B I ⟨G, env, fr, sr, h⟩ => ?_
  replace h : AftS w G B env σ H (chk (ownAt env x) ((eval w.C e (vals (demote os env))).bind fun d => (eval w.C i (vals (demote os env))).bind fun k => chk (!(os.any (ownAt env)) || (noList d && noList k)) (putI env x k d))) := h
  obtain ⟨hx, h⟩ := aftS_chk h
  obtain ⟨s1, s2⟩ := SRep.dem os sr
  unfold ownAt at hx
  cases ex : env[x]? with
  | none => rw [ex] at hx; cases hx
  | some sl =>
    rw [ex] at hx
    cases sl with
    | emp => cases hx
    | val _ => cases hx
    | own dd =>
      obtain ⟨l, hσ, gl, ol⟩ := sr.own x dd ex
      have own : Own env σ l := ⟨x, _, ex, hσ⟩
      cases dd <;> try exact (show False from ol).elim
      · rename_i ds
        obtain ⟨vs, hH, hr⟩ := ol
        refine ⟨_, psHB PL, _, _, s1.fresh fr, s1.vals, (AftS.bind h).imp fun d H1 e1 b1 h1 v rv => ⟨_, hσ, _, _, (s1.ext e1).fresh (fr.ext e1), (s1.ext e1).vals, (AftS.bind h1).imp fun k H2 e2 b2 h2 kv rk => ?_⟩⟩
        replace h2 := aftS_chk h2
        obtain ⟨c1, h2⟩ := h2
        unfold putI at h2
        rw [ex] at h2
        cases k <;> try exact (show False from h2).elim
        rename_i ki
        replace h2 : AftS w G B env σ H2 (match ixN ds.length ki with
          | some j => .ok (.nx (env.set x (.own (.lst (ds.set j d)))))
          | none => .bad) := h2
        cases ej : ixN ds.length ki with
        | none => rw [ej] at h2; exact h2.elim
        | some j =>
          rw [ej] at h2
          cases rk
          have hH2 := e2 _ _ (e1 _ _ hH)
          have sr2 := (sr.ext e1).ext e2
          have rd : Rep w.T (Nv G env σ) H2 v d := rep_keep (os := os) sr2 (rv.ext e2) (by
            cases ho : os.any (ownAt env) with
            | false => rfl
            | true =>
              rw [ho] at c1
              have := (and2 (show (noList d && noList (.int ki)) = true from c1)).1
              rw [this]; rfl)
          have hl := hr.length
          refine ⟨l, vs, ki, j, rfl, rfl, hH2, by rw [hl]; exact ej, fun b' => wrote (d' := .lst (ds.set j d)) sr2 ex hσ ⟨_, upd_same, Reps.evo (evo_own own) (Reps.set rd j ((hr.ext e1).ext e2))⟩ h2 b'⟩
      · rename_i kvs
        obtain ⟨xs, hD, hk⟩ := ol
        refine ⟨_, psHB PD, _, _, s1.fresh fr, s1.vals, (AftS.bind h).imp fun d H1 e1 b1 h1 v rv => ⟨_, hσ, _, _, (s1.ext e1).fresh (fr.ext e1), (s1.ext e1).vals, (AftS.bind h1).imp fun k H2 e2 b2 h2 kv rk => ?_⟩⟩
        replace h2 := aftS_chk h2
        obtain ⟨c1, h2⟩ := h2
        unfold putI at h2
        rw [ex] at h2
        replace h2 : AftS w G B env σ H2 (chk (keyT k && decide (kvs.length < LIM)) (.ok (.nx (env.set x (.own (.dic (put kvs k d))))))) := h2
        obtain ⟨c2, h2⟩ := aftS_chk h2
        obtain ⟨c2, c3⟩ := and2 c2
        have c3 := of_decide_eq_true c3
        have sr2 := (sr.ext e1).ext e2
        have e12 := e1.trans e2
        have rd : Rep w.T (Nv G env σ) H2 v d := rep_keep (os := os) sr2 (rv.ext e2) (by
          cases ho : os.any (ownAt env) with
          | false => rfl
          | true =>
            rw [ho] at c1
            have := (and2 (show (noList d && noList k) = true from c1)).1
            rw [this]; rfl)
        have rkk : Rep w.T (Nv G env σ) H2 kv k := rep_keep (os := os) sr2 rk (by
          cases ho : os.any (ownAt env) with
          | false => rfl
          | true =>
            rw [ho] at c1
            have := (and2 (show (noList d && noList k) = true from c1)).2
            rw [this]; rfl)
        obtain ⟨ai, rfl⟩ := key_ref rkk c2
        have hk2 : Repk w.T (Nv G env σ) H2 xs kvs := Repk.evo e12.evo hk
        have hD2 : DicObj w.T.P w.T.w H2 l xs := hD.at fun o z => e12 _ _ z
        have eT := C.T
        rw [eT] at hD2
        refine ⟨Nv G env σ, l, ai, xs, kvs, k, rfl, rfl, hD2, by rw [← eT]; exact hk2, by rw [← eT]; exact rkk, c2, by rw [repk_len hk2, ← LIM_eq]; exact c3, fun ob hob b' => ?_⟩
        refine wrote (d' := .dic (put kvs k d)) sr2 ex hσ ⟨storeV xs (nk k) ai v, ?_, ?_⟩ h2 b'
        · rw [eT]; exact hob _ upd_same
        · exact Repk.evo (evo_own own) (repk_store c2 rkk rd hk2)

/-! ### blocks -/
theorem s_nil : PSs X [] (tSL w .nil) := kSs pss_nil fun B σ H hl hb ⟨G, env, fr, sr, h⟩ => fun b => (show AftS w G B env σ H (.ok (.nx env)) from h) σ H sr (Step.refl' fun _ z => z) b
theorem aft_fresh {G : Addr → Prop} {env e : SEnv} {σ σ' : St} {H H' : Hp} (fr : Fresh G H) (s : Step env σ H e σ' H') : Fresh G H' := fun a z => fr a (s.evo.free a z)
/-- one statement, then what follows what it does -/
theorem seqS {B : Ends} {G : Addr → Prop} {env : SEnv} {σ : St} {H : Hp} {r : R Fl} {k : SEnv → R Fl} {N : St → Hp → Prop} (fr : Fresh G H)
    (h : AftS w G B env σ H (r.bind fun fl => match fl with
      | .nx e => k e
      | fl => .ok fl)) (hn : ∀ e σ' H', Fresh G H' → SRep w.T G H' σ' e → Step env σ H e σ' H' → HB H' → AftS w G B e σ' H' (k e) → N σ' H') : AftS w G { B with nx := N } env σ H r := by
  cases r with
  | ok fl =>
    cases fl with
    | nx e => exact fun σ' H' s1 s2 b => hn e σ' H' (aft_fresh fr s2) s1 s2 b (AftS.step (r := k e) h s2)
    | rt d => exact h
    | ct e => exact h
  | exc c => exact h
  | bad => exact h
theorem s_cons {s : S} {ss : SL} {st : Stmt} {rest : List Stmt} (h1 : PS X st (tS w s)) (h2 : PSs X rest (tSL w ss)) : PSs X (st :: rest) (tSL w (.cons s ss)) := by
  refine ⟨fun pins sh σ H B I ⟨G, env, fr, sr, h⟩ => (pss_cons h1 h2).run pins sh σ H B I ⟨G, env, fr, sr, ?_⟩⟩
  exact seqS (k := fun e => execL w.C ss e) fr h fun e σ' H' f1 s1 _ _ a => ⟨G, e, f1, s1, a⟩
theorem s_iff {t : E} {a b : SL} {tx : Expr} {xa xb : List Stmt} {pos : Pos} (C : CokS Y X w sc) (m : mE Y X.N t sc tx = true) (ha : PSs X xa (tSL w a)) (hb : PSs X xb (tSL w b)) : PS X (.If tx xa xb pos) (tS w (.iff t a b)) := by
  refine ⟨fun pins sh σ H B I ⟨G, env, fr, sr, h⟩ => (ps_if ((sndE t).pt C.toCok m) ha hb).run pins sh σ H B I ?_⟩
  replace h : AftS w G B env σ H ((eval w.C t (datas env)).bind fun x => (truth x).bind fun k => if k then execL w.C a env else execL w.C b env) := h
  rw [← R.bind_assoc] at h
  refine ⟨G, datas env, fr, sr.datas, (AftS.bind h).imp fun k H' e' b' h' => ?_⟩
  cases k with
  | true => exact ⟨G, env, fr.ext e', sr.ext e', h'⟩
  | false => exact ⟨G, env, fr.ext e', sr.ext e', h'⟩
theorem s_ret {e : E} {x : Expr} {pos : Pos} (C : CokS Y X w sc) (m : mE Y X.N e sc x = true) : PS X (.Return (some x) pos) (tS w (.ret e)) := by
  refine ⟨fun pins sh σ H B I ⟨G, env, fr, sr, h⟩ => (ps_ret ((sndE e).pe C.toCok m)).run pins sh σ H B I ?_⟩
  replace h : AftS w G B env σ H ((eval w.C e (datas env)).bind fun d => .ok (.rt d)) := h
  exact ⟨G, datas env, fr, sr.datas, (AftS.bind h).imp fun d H' e' b' h' v r => h' v H' (Evo.refl _) b' r⟩
theorem s_cont {pos : Pos} : PS X (.Continue pos) (tS w .cont) := kS ps_continue fun B σ H hl hb ⟨G, env, fr, sr, h⟩ => fun b => (show AftS w G B env σ H (.ok (.ct env)) from h) σ H sr (Step.refl' fun _ z => z) b

/-! ### loops -/
theorem walkD_imp {T : Wd} {G : Addr → Prop} {J : It} {m : Bool} {ds : List D} {H0 : Hp} {P : Hp → Prop} (wk : WalkD T G J m ds H0) (hp : ∀ H, P H → Evo (Al G H0) H0 H) :
    Walk J ds.length P (fun i H x H' => Ext H H' ∧ ∃ d, ds[i]? = some d ∧ ∀ G' : Addr → Prop, (∀ a, Al G H0 a → G' a) → Fresh G' H → RepM T G' H' m x d) :=
  wk.mono hp fun _ _ _ _ _ _ y => y
theorem drop_get {ds : List D} {i : Nat} {d : D} (h : ds[i]? = some d) : ds.drop i = d :: ds.drop (i + 1) := by
  obtain ⟨hi, e⟩ := List.getElem?_eq_some_iff.mp h
  rw [← e]
  exact (List.getElem_cons_drop hi).symm
theorem s_for {tg : TG} {it : IT} {body : SL} {fg os : List Nat} {t i : Expr} {bs : List Stmt} {pos : Pos} (C : CokS Y X w sc) (m1 : mTG X.N sc tg t = true) (m2 : mI Y X.N it sc i = true) (m3 : mustTup it = true → ∃ elts k p, t = .Tuple elts k p) (mg : mustTup it = true → isTupG tg = true) (m4 : isSet i = false)
    (hb : PSs X bs (tSL w body)) : PS X (.For t i bs [] pos) (tS w (.for_ tg it body fg os)) := by
  have eK : w.T.K = X.K := by rw [C.T]; rfl
  refine kS (ps_for C.po C.calm ((sndIT it).pi C.toCok m2 m3) (pg_tgt C.toCok m1) hb (no_set m4)) fun B σ H hl hbd ⟨G, env, fr, sr, h⟩ => ?_
  replace h : AftS w G B env σ H ((evalI w.C it (vals (demote os env))).bind fun ds => forL (execL w.C body) tg fg ds (forget fg (if isRng it then env else demote os env))) := h
  obtain ⟨s1, s2⟩ := SRep.dem os sr
  refine ⟨_, _, s1.fresh fr, s1.vals, (AftS.bind h).imp fun ds H1 e1 b1 h1 J wk hlen => ?_⟩
  -- the slots that the loop starts with
  obtain ⟨env3, h3e, s3, o3, wk3⟩ : ∃ env3, (if isRng it then env else demote os env) = env3 ∧ SRep w.T G H1 σ env3 ∧ (∀ a, Own env3 σ a → Own env σ a) ∧ WalkD w.T (Nv G env3 σ) J (mustTup it) ds H1 := by
    cases hr : isRng it with
    | true => exact ⟨env, rfl, sr.ext e1, fun _ z => z, wk _ (.inl hr)⟩
    | false => exact ⟨_, rfl, s1.ext e1, s2, wk _ (.inr rfl)⟩
  rw [h3e] at h1
  obtain ⟨f1, f2⟩ := SRep.forget fg s3
  have fr1 := fr.ext e1
  have st3 : Step env σ H1 env3 σ H1 := Step.refl' o3
  refine for_it (walkD_imp wk3 (P := fun H' => Evo (Al (Nv G env3 σ) H1) H1 H') (fun _ z => z)) (fun i σ' H' => ∃ e', SRep w.T G H' σ' e' ∧ Step env3 σ H1 e' σ' H' ∧ AftS w G B e' σ' H' (forL (execL w.C body) tg fg (ds.drop i) e'))
    ⟨_, f1, Step.refl' f2, AftS.step h1 (Step.trans st3 (Step.refl' f2))⟩ (fun i σ' H' _ q => ?_) (fun i x σ' H' H2 hi q y => ?_) (fun σ' H' q => ?_)
  · obtain ⟨e', q1, q2, q3⟩ := q
    exact ⟨fun a o n z => q2.evo.keep a o n.1.2 z, q2.evo.free⟩
  · obtain ⟨e', q1, q2, q3⟩ := q
    obtain ⟨y1, d, y2, y3⟩ := y
    rw [drop_get y2] at q3
    have q1' := q1.ext y1
    have frH := aft_fresh fr1 q2
    have rd := y3 (Nv G e' σ') (fun a z => ⟨z.1.1, fun o => by
      rcases q2.own a o with r | r
      · exact z.1.2 r
      · exact z.2 r⟩) (q1.fresh frH)
    replace q3 : AftS w G B e' σ' H' ((setTS tg d e').bind fun env1 => (execL w.C body env1).bind fun fl => match fl with
      | .nx e => forL (execL w.C body) tg fg (ds.drop (i + 1)) (forget fg e)
      | .ct e => forL (execL w.C body) tg fg (ds.drop (i + 1)) (forget fg e)
      | .rt v => .ok (.rt v)) := q3
    have q3' := AftS.step q3 (Step.of_ext y1)
    rw [← eK]
    cases es : setTS tg d e' with
    | exc c => exact absurd es setTS_ne
    | bad => rw [es] at q3'; exact q3'.elim
    | ok env1 =>
      rw [es] at q3'
      refine tgS_ok mg q1' rd es fun σ2 t1 t2 => ⟨G, env1, frH.ext y1, t1, ?_⟩
      have st : Step e' σ' H2 env1 σ2 H2 := Step.refl' t2
      have q4 := AftS.step (r := (execL w.C body env1).bind fun fl => match fl with
        | .nx e => forL (execL w.C body) tg fg (ds.drop (i + 1)) (forget fg e)
        | .ct e => forL (execL w.C body) tg fg (ds.drop (i + 1)) (forget fg e)
        | .rt v => .ok (.rt v)) q3' st
      have all : Step env3 σ H1 env1 σ2 H2 := q2.trans ((Step.of_ext y1).trans st)
      have next : ∀ {e : SEnv} {σ3 : St} {H3 : Hp}, SRep w.T G H3 σ3 e → Step env1 σ2 H2 e σ3 H3 → AftS w G B env1 σ2 H2 (forL (execL w.C body) tg fg (ds.drop (i + 1)) (forget fg e)) →
          ∃ e', SRep w.T G H3 σ3 e' ∧ Step env3 σ H1 e' σ3 H3 ∧ AftS w G B e' σ3 H3 (forL (execL w.C body) tg fg (ds.drop (i + 1)) e') := fun {e σ3 H3} a1 a2 a3 => by
        obtain ⟨g1, g2⟩ := SRep.forget fg a1
        exact ⟨_, g1, (all.trans a2).trans (Step.refl' g2), AftS.step a3 (a2.trans (Step.refl' g2))⟩
      cases ex : execL w.C body env1 with
      | bad => rw [ex] at q4; exact q4.elim
      | exc c => rw [ex] at q4; exact q4
      | ok fl =>
        rw [ex] at q4
        cases fl with
        | nx e => exact fun σ3 H3 a1 a2 _ => next a1 a2 q4
        | ct e => exact fun σ3 H3 a1 a2 _ => next a1 a2 q4
        | rt v => exact fun v' H3 a1 a2 a3 b' => (show AftS w G B env1 σ2 H2 (.ok (.rt v)) from q4) v' H3 a1 a2 a3
  · obtain ⟨e', q1, q2, q3⟩ := q
    rw [List.drop_length] at q3
    exact fun b => (show AftS w G B e' σ' H' (.ok (.nx e')) from q3) σ' H' q1 (Step.refl' fun _ z => z) b
theorem s_whl {t : E} {body : SL} {fg : List Nat} {tx : Expr} {bs : List Stmt} {pos : Pos} (C : CokS Y X w sc) (m1 : mE Y X.N t sc tx = true) (hb : PSs X bs (tSL w body)) : PS X (.While tx bs [] pos) (tS w (.whl t body fg)) := by
  refine kS (ps_while C.po ((sndE t).pt C.toCok m1) hb) fun B σ H hl hbd ⟨G, env, fr, sr, h⟩ => ?_
  replace h : AftS w G B env σ H (whlL (fun env => (eval w.C t (datas env)).bind truth) (execL w.C body) fg w.C.wf (forget fg env)) := h
  obtain ⟨f1, f2⟩ := SRep.forget fg sr
  refine ⟨fun m σ' H' => ∃ e', SRep w.T G H' σ' e' ∧ Step env σ H e' σ' H' ∧ AftS w G B e' σ' H' (whlL (fun env => (eval w.C t (datas env)).bind truth) (execL w.C body) fg m e'), ⟨_, _, f1, Step.refl' f2, AftS.step h (Step.refl' f2)⟩, fun m σ' H' q => ?_⟩
  obtain ⟨e', q1, q2, q3⟩ := q
  have frH := aft_fresh fr q2
  cases m with
  | zero => exact (show False from q3).elim
  | succ m =>
    replace q3 : AftS w G B e' σ' H' (((eval w.C t (datas e')).bind truth).bind fun k => if k then (execL w.C body e').bind fun fl => match fl with
        | .nx e => whlL (fun env => (eval w.C t (datas env)).bind truth) (execL w.C body) fg m (forget fg e)
        | .ct e => whlL (fun env => (eval w.C t (datas env)).bind truth) (execL w.C body) fg m (forget fg e)
        | .rt v => .ok (.rt v)
      else .ok (.nx e')) := q3
    refine ⟨G, datas e', frH, q1.datas, (AftS.bind q3).imp fun k H2 x2 b2 h2 => ?_⟩
    have q1' := q1.ext x2
    cases k with
    | false => exact fun b => (show AftS w G B e' σ' H2 (.ok (.nx e')) from h2) σ' H2 q1' (Step.refl' fun _ z => z) b
    | true =>
      replace h2 : AftS w G B e' σ' H2 ((execL w.C body e').bind fun fl => match fl with
        | .nx e => whlL (fun env => (eval w.C t (datas env)).bind truth) (execL w.C body) fg m (forget fg e)
        | .ct e => whlL (fun env => (eval w.C t (datas env)).bind truth) (execL w.C body) fg m (forget fg e)
        | .rt v => .ok (.rt v)) := h2
      rw [if_pos rfl]
      refine ⟨fun σ3 H3 => ∃ e', SRep w.T G H3 σ3 e' ∧ Step env σ H e' σ3 H3 ∧ AftS w G B e' σ3 H3 (whlL (fun env => (eval w.C t (datas env)).bind truth) (execL w.C body) fg m e'), fun σ3 H3 z => ⟨m, Nat.lt_succ_self m, z⟩, G, e', frH.ext x2, q1', ?_⟩
      have next : ∀ {e : SEnv} {σ3 : St} {H3 : Hp}, SRep w.T G H3 σ3 e → Step e' σ' H2 e σ3 H3 → AftS w G B e' σ' H2 (whlL (fun env => (eval w.C t (datas env)).bind truth) (execL w.C body) fg m (forget fg e)) →
          ∃ e', SRep w.T G H3 σ3 e' ∧ Step env σ H e' σ3 H3 ∧ AftS w G B e' σ3 H3 (whlL (fun env => (eval w.C t (datas env)).bind truth) (execL w.C body) fg m e') := fun {e σ3 H3} a1 a2 a3 => by
        obtain ⟨g1, g2⟩ := SRep.forget fg a1
        exact ⟨_, g1, ((q2.trans (Step.of_ext x2)).trans a2).trans (Step.refl' g2), AftS.step a3 (a2.trans (Step.refl' g2))⟩
      cases ex : execL w.C body e' with
      | bad => rw [ex] at h2; exact h2.elim
      | exc c => rw [ex] at h2; exact h2
      | ok fl =>
        rw [ex] at h2
        cases fl with
        | nx e => exact fun σ3 H3 a1 a2 _ => next a1 a2 h2
        | ct e => exact fun σ3 H3 a1 a2 _ => next a1 a2 h2
        | rt v => exact fun v' H3 a1 a2 a3 b' => (show AftS w G B e' σ' H2 (.ok (.rt v)) from h2) v' H3 a1 a2 a3
end
end Ev

/-! Ev23b: raise; try. -/
namespace Ev
open PySem PySem.Spec L2
open PyProof.Rows hiding St
variable {Y : Tx}
section
variable {X : Cx} {w : Ws} {sc : Scope}
theorem s_rse {c : Nat} {x m : Str} {j : Nat} {p p2 pos pos2 : Pos} (C : CokS Y X w sc) (hc : c < 2) (h1 : Y.xn c = some x) (h2 : glB sc x = true) : PS X (.Raise (some (.Call (.Name x p) [.Constant (.str m) j p2] [] pos2)) none pos) (tS w (.rse c)) := by
  obtain ⟨Ca, e1, e2, e3, e4, e5, e6, e7⟩ := C.xs.one c x hc h1
  obtain ⟨o1, o2, o3⟩ := okN_of (glB_ok h2)
  refine ⟨fun pins s σ H D I ⟨G, env, fr, sr, h⟩ => (ps_raise C.calm C.tk (pmk_own PySem.F.excBase_ValueError e3 e2 e4 (raises_own e5 e6) (C.gl _ h2) o1)).run pins s σ H D I ?_⟩
  replace h : AftS w G D env σ H (.exc c) := h
  have := h σ H (Evo.refl _)
  rw [e1] at this
  exact this
/-- the context of a try's body -/
theorem CokS.tr (C : CokS Y X w sc) {pn : List (Addr × Obj)} {xe : Value → Shared → Prop} {W : WX} (tk : Takes (X.tr pn xe) W) (po : PassesOwn (model X.prog X.w) X.A X.env xe) : CokS Y (X.tr pn xe) { w with W := W } sc :=
  ⟨⟨C.T, C.hN, C.calm, C.hu, tk, C.vis, C.loc, C.gl, C.up, C.blt, C.fns, C.gls⟩, C.scE, C.kd, po, C.stk, C.frm, C.xs⟩
/-- the slots behind a caught exception -/
theorem emp_srep {T : Wd} {G : Addr → Prop} {H : Hp} {σ : St} {env : SEnv} (hl : σ.length = env.length) : SRep T G H σ (env.map fun _ => Slot.emp) ∧ ∀ a, ¬ Own (env.map fun _ => Slot.emp) σ a := by
  have e : ∀ (i : Nat) (s : Slot), (env.map fun _ => Slot.emp)[i]? = some s → s = .emp := fun i s h => by
    rw [List.getElem?_map] at h
    cases q : env[i]? with
    | none => rw [q] at h; cases h
    | some z => rw [q] at h; cases h; rfl
  refine ⟨⟨by rw [List.length_map]; exact hl, fun i d q => ?_, fun i d q => ?_, fun i j d d' a q _ _ _ => ?_⟩, fun a ⟨i, d, q, _⟩ => ?_⟩
  · cases e i _ q
  · cases e i _ q
  · cases e i _ q
  · cases e i _ q
/-- what stands behind a caught exception -/
theorem aft_caught {G : Addr → Prop} {B : Ends} {env : SEnv} {σ σ' : St} {H H' : Hp} {x : Nat} {v : V} {d : D} (h : AftS w G B env σ H (.ok (.nx ((env.map fun _ => Slot.emp).set x (.val d))))) (ev : Evo (fun a => ¬ Own env σ a) H H') (hl : σ'.length = env.length) (hb : HB H')
    (r : Rep w.T G H' v d) : B.nx (σ'.set x (some v)) H' := by
  obtain ⟨s1, s2⟩ := emp_srep (T := w.T) (G := G) (H := H') (env := env) hl
  have nown : ∀ a, ¬ Own ((env.map fun _ => Slot.emp).set x (.val d)) (σ'.set x (some v)) a := fun a o => s2 a (own_mono (s := .val d) rfl o)
  exact h _ _ (s1.setVal (Rep.imp (fun a g => ⟨g, s2 a⟩) r)) ⟨ev, fun a o => (nown a o).elim⟩ hb
theorem tr_exec {C : Cl} {body : SL} {x : Nat} {as : Option (Nat × List Nat)} {env : SEnv} : exec C (.tr body x as) env = match execL C body env with
    | .exc k => chk (decide (k < 2)) (.ok (.nx ((env.map fun _ => Slot.emp).set x (.val (suiteD k as)))))
    | .ok (.nx e) => .ok (.nx e)
    | _ => .bad := rfl
/-- the body of a try -/
theorem tr_body {G : Addr → Prop} {B : Ends} {env : SEnv} {σ : St} {H : Hp} {body : SL} {x : Nat} {as : Option (Nat × List Nat)} {W : WX} (fr : Fresh G H) (sr : SRep w.T G H σ env) (h : AftS w G B env σ H (exec w.C (.tr body x as) env))
    (hW : ∀ k σ' H', k < 2 → Evo (fun a => ¬ Own env σ a) H H' → Fresh G H' → AftS w G B env σ H (.ok (.nx ((env.map fun _ => Slot.emp).set x (.val (suiteD k as))))) → W (w.xc k) none σ' H') : tSL { w with W := W } body B σ H := by
  refine ⟨G, env, fr, sr, ?_⟩
  rw [tr_exec] at h
  show AftS { w with W := W } G B env σ H (execL w.C body env)
  cases ex : execL w.C body env with
  | bad => rw [ex] at h; exact h.elim
  | exc k =>
    rw [ex] at h
    obtain ⟨hk, h⟩ := aftS_chk h
    exact fun σ' H' ev => hW k σ' H' (of_decide_eq_true hk) ev (fun a z => fr a (ev.free a z)) h
  | ok fl =>
    rw [ex] at h
    cases fl with
    | nx e => exact h
    | rt d => exact h.elim
    | ct e => exact h.elim
theorem psLen {X : Cx} {st : Stmt} {t : TS} (h : PS X st t) : PS X st (fun B σ H => σ.length = X.N.length → HB H → t B σ H) := ⟨fun pins s σ H B I q => h.run pins s σ H B I (q I.len (Inv.hb I))⟩
/-- try: body / except MillError: x = None -/
theorem s_tr0 {body : SL} {bs : List Stmt} {x : Nat} {y cl : Str} {np p pos pos1 pos2 p2 : Pos} {j : Nat} (C : CokS Y X w sc) (h1 : Y.xn 2 = some cl) (h2 : glB sc cl = true) (h3 : tgB X.N sc x y = true)
    (hb : ∀ {X' : Cx} {w' : Ws}, CokS Y X' w' sc → X'.N = X.N → PSs X' bs (tSL w' body)) :
    PS X (.Try bs [.ExceptHandler (some (.Name cl np)) none [.Assign [.Name y p] (.Constant .none j p2) pos1] pos2] [] [] pos) (tS w (.tr body x none)) := by
  obtain ⟨v, e1, e2⟩ := C.xs.base cl h1
  obtain ⟨o1, o2, o3⟩ := okN_of (glB_ok h2)
  obtain ⟨a1, b1, c1⟩ := tgB_ok h3
  obtain ⟨l1, l2⟩ := C.loc _ b1
  let ts : Addr → Value → Option Addr → TS := fun _ _ _ B σ H => σ.length = X.N.length → HB H → B.nx (σ.set x (some .non)) H
  have P := ps_try_only (X := X) (body := bs) (suite := []) (b₀ := .Assign [.Name y p] (.Constant .none j p2) pos1) (np := np) (pos := pos) (pos' := pos2) (tb := fun W => tSL { w with W := W } body) (ts := ts) (Wout := w.W) C.stk C.frm
    (⟨C.gl _ h2, o1, .inl e1⟩ : Names X cl v) C.tk (fun W pn xe tk po => hb (C.tr tk po) rfl)
    (fun a oe cls d pn _ _ => pss_one (psLen (ps_set (X := X.suite a ((a, oe) :: pn)) (i := x) C.hN a1 l1 pe_non rfl l2)))
  refine kS P fun B σ H hl hbd ⟨G, env, fr, sr, h⟩ => ?_
  refine tr_body (B := eHB B) fr sr (show AftS w G (eHB B) env σ H (exec w.C (.tr body x none) env) from ?_) fun k σ' H' hk ev fr' h' => ⟨true, e2 k hk, fun _ a ha hl' hb' => ?_, fun z => by cases z⟩
  · cases q : exec w.C (.tr body x none) env with
    | bad => rw [q] at h; exact h
    | exc k => rw [q] at h; exact h
    | ok fl =>
      rw [q] at h
      cases fl with
      | nx e => exact fun σ' H' a b c _ => h σ' H' a b c
      | rt d => exact fun v H' a b c _ => h v H' a b c
      | ct e => exact fun σ' H' a b c _ => h σ' H' a b c
  · exact aft_caught h' ev (by rw [hl', ← hl]; exact sr.len) hb' .non
/-- the tests isinstance(e, c), .. of a caught exception -/
def mIs (Y : Tx) (sc : Scope) (z : Str) : List Nat → List Expr → Bool
  | [], [] => true
  | c :: cs, .Call (.Name f _) [.Name z' _, .Name y _] [] _ :: es => decide (f = "isinstance") && glB sc f && decide (z' = z) && decide (Y.xn c = some y) && glB sc y && mIs Y sc z cs es
  | _, _ => false
theorem mIs_cons {sc : Scope} {z : Str} {c : Nat} {cs : List Nat} {es : List Expr} (h : mIs Y sc z (c :: cs) es = true) : ∃ p p1 p2 pos y r, es = .Call (.Name "isinstance" p) [.Name z p1, .Name y p2] [] pos :: r ∧ glB sc "isinstance" = true ∧ Y.xn c = some y ∧ glB sc y = true ∧ mIs Y sc z cs r = true := by
  rcases es with _ | ⟨e, r⟩
  · exact Bool.noConfusion (show false = true from h)
  · cases e <;> try exact Bool.noConfusion (show false = true from h)
    rename_i fn args kws pos
    cases fn <;> try exact Bool.noConfusion (show false = true from h)
    rename_i f p
    rcases args with _ | ⟨a1, _ | ⟨a2, _ | ⟨_, _⟩⟩⟩ <;> try exact Bool.noConfusion (show false = true from h)
    · cases a1 <;> exact Bool.noConfusion (show false = true from h)
    · cases a1 <;> try exact Bool.noConfusion (show false = true from h)
      cases a2 <;> try exact Bool.noConfusion (show false = true from h)
      rename_i z1 q1 y1 q2
      rcases kws with _ | ⟨_, _⟩ <;> try exact Bool.noConfusion (show false = true from h)
      obtain ⟨h0, h5, h6⟩ := and3 (show (decide (f = "isinstance") && glB sc f && decide (z1 = z) && decide (Y.xn c = some y1) && glB sc y1 && mIs Y sc z cs r) = true from h)
      obtain ⟨h1, h2, h3, h4⟩ := and4 h0
      have h1 := of_decide_eq_true h1
      have h3 := of_decide_eq_true h3
      subst h1 h3
      exact ⟨_, _, _, _, _, _, rfl, h2, of_decide_eq_true h4, h5, h6⟩
    · cases a1 <;> first | exact Bool.noConfusion (show false = true from h) | (cases a2 <;> exact Bool.noConfusion (show false = true from h))
theorem pa_isE (C : CokS Y X w sc) {n : Nat} {z : Str} (hn : vrB X.N sc n z = true) (h2 : Y.xn 2 ≠ none) (h01 : Y.xn 0 ≠ Y.xn 1) {k : Nat} (hk : k < 2) {a : Addr} {oe : Obj} {pn : List (Addr × Obj)} (hz : Zc (w.xc k) none oe) (hf : ∃ vs, oe.data = .fields vs) :
    ∀ (cs : List Nat) (es : List Expr), mIs Y sc z cs es = true → PA (X.suite a ((a, oe) :: pn)) es (fun σ H Q => σ[n]? = some (some (.ref a)) ∧ Q (cs.map fun c => V.bl (isExc k c)) H)
  | [], es, m => by
    cases es with
    | nil => exact PA.imp pa_nil fun σ H Q q => q.2
    | cons _ _ => exact Bool.noConfusion (show false = true from m)
  | c :: cs, es, m => by
    obtain ⟨p, p1, p2, pos, y, r, rfl, m1, m2, m3, m4⟩ := mIs_cons m
    have ih := pa_isE C hn h2 h01 hk (a := a) (pn := pn) hz hf cs r m4
    obtain ⟨x2, e2⟩ := Option.ne_none_iff_exists'.mp h2
    obtain ⟨xk, ek⟩ := C.xs.both k x2 hk e2
    obtain ⟨Ca, f1, f2, f3, f4, f5, f6, f7⟩ := C.xs.one k xk hk ek
    obtain ⟨v, cv, g1, g2, g3, g4⟩ := C.xs.isx k c y hk h2 h01 m2
    rw [f1] at hz g4
    obtain ⟨n1, n2, n3⟩ := vr_of hn
    obtain ⟨o1, o2, o3⟩ := okN_of n3
    obtain ⟨u1, u2, u3⟩ := okN_of (glB_ok m3)
    have pe1 : PE (X.suite a ((a, oe) :: pn)) (.Name z p1) _ := pe_var (pos := p1) n1 (C.vis _ n2) o1 o2
    have pe2 : PE (X.suite a ((a, oe) :: pn)) (.Name y p2) (tC v) := by
      rcases g1 with g1 | ⟨g1, g1'⟩
      · exact pe_glob (C.gl _ m3) g1 g2 u1
      · exact pe_bltn (C.gl _ m3) g1 g1' g2 u3 u1
    have hm : X.mg "isinstance" = none := C.blt "isinstance" (by decide)
    have pc : PE (X.suite a ((a, oe) :: pn)) (.Call (.Name "isinstance" p) [.Name z p1, .Name y p2] [] pos) _ := pe_callB (call_isE (X := X) f7 hz hf) (C.gl _ m1) hm boot_isinstance (pa_cons pe1 (pa_cons pe2 pa_nil))
    refine PA.imp (pa_cons pc ih) fun σ H Q q => ?_
    exact ⟨.ref a, q.1, v, cv, isExc k c, rfl, g3, g4, q.1, q.2⟩
theorem reps_bls {α : Type} {T : Wd} {G : Addr → Prop} {H : Hp} {f : α → Bool} : ∀ cs : List α, Reps T G H (cs.map fun c => V.bl (f c)) (cs.map fun c => D.bl (f c))
  | [] => .nil
  | c :: cs => .cons (.bl _) (reps_bls cs)
/-- try: body / except MillError as e: x = ("no", isinstance(e, c), ..) -/
theorem s_trA {body : SL} {bs : List Stmt} {x n : Nat} {cs : List Nat} {y z cl : Str} {es : List Expr} {np p pos pos1 pos2 p2 p3 : Pos} {j j2 : Nat} (C : CokS Y X w sc) (h1 : Y.xn 2 = some cl) (h2 : glB sc cl = true) (h3 : tgB X.N sc x y = true) (h4 : vrB X.N sc n z = true)
    (h5 : sc.names.lookup z = some .local) (h6 : n ≠ x) (h7 : mIs Y sc z cs es = true) (h8 : cs.length < 20) (h9 : Y.xn 0 ≠ Y.xn 1) (hb : ∀ {X' : Cx} {w' : Ws}, CokS Y X' w' sc → X'.N = X.N → PSs X' bs (tSL w' body)) :
    PS X (.Try bs [.ExceptHandler (some (.Name cl np)) (some z) [.Assign [.Name y p] (.Tuple (.Constant (.str "no") j p2 :: es) j2 p3) pos1] pos2] [] [] pos) (tS w (.tr body x (some (n, cs)))) := by
  obtain ⟨v, e1, e2⟩ := C.xs.base cl h1
  obtain ⟨o1, o2, o3⟩ := okN_of (glB_ok h2)
  obtain ⟨a1, b1, c1⟩ := tgB_ok h3
  obtain ⟨l1, l2⟩ := C.loc _ b1
  obtain ⟨n1, n2, n3⟩ := vr_of h4
  let ts : Addr → Value → Option Addr → TS := fun a cls d B σ H => ∃ k, k < 2 ∧ cls = w.xc k ∧ d = none ∧ (σ.length = X.N.length → σ[n]? = some (some (.ref a))) ∧ (σ.length = X.N.length → HB H → NewTup H (fun v H1 => B.nx (σ.set x (some v)) H1) (V.str "no" :: cs.map fun c => V.bl (isExc k c)))
  have P := ps_try_as (X := X) (i := n) (body := bs) (suite := []) (b₀ := .Assign [.Name y p] (.Tuple (.Constant (.str "no") j p2 :: es) j2 p3) pos1) (np := np) (pos := pos) (pos' := pos2) (tb := fun W => tSL { w with W := W } body) (ts := ts) (Wout := w.W) C.stk C.frm C.hN n1
    (by unfold PySem.Env.kindOf; rw [C.scE]; exact h5) (⟨C.gl _ h2, o1, .inl e1⟩ : Names X cl v) C.tk (fun W pn xe tk po => hb (C.tr tk po) rfl)
    (fun a oe cls d pn hz hf => ⟨fun pins s σ H B I ⟨k, hk, hc, hd, hs, q⟩ => by
      subst hc hd
      refine (pss_one (ps_set (X := X.suite a ((a, oe) :: pn)) (i := x) (pos := pos1) (pos' := p) C.hN a1 l1 (pe_tupF (pa_cons pe_str (pa_isE C h4 (by rw [h1]; simp) h9 hk hz hf cs es h7))) rfl l2)).run pins s σ H B I ?_
      refine ⟨hs I.len, ?_, q I.len (Inv.hb I)⟩
      show (V.str "no" :: cs.map fun c => V.bl (isExc k c)).length ≤ sizeLine
      rw [sizeLine_eq, List.length_cons, List.length_map]; omega⟩)
  refine kS P fun B σ H hl hbd ⟨G, env, fr, sr, h⟩ => ?_
  refine tr_body (B := eHB B) fr sr (show AftS w G (eHB B) env σ H (exec w.C (.tr body x (some (n, cs))) env) from ?_) fun k σ' H' hk ev fr' h' => ⟨true, e2 k hk, fun _ a ha => ⟨k, hk, rfl, rfl, fun hl' => ?_, fun hl' hb' q o hd hq => ?_⟩, fun z => by cases z⟩
  · cases q : exec w.C (.tr body x (some (n, cs))) env with
    | bad => rw [q] at h; exact h
    | exc k => rw [q] at h; exact h
    | ok fl =>
      rw [q] at h
      cases fl with
      | nx e => exact fun σ' H' a b c _ => h σ' H' a b c
      | rt d => exact fun v H' a b c _ => h v H' a b c
      | ct e => exact fun σ' H' a b c _ => h σ' H' a b c
  · have hn : n < X.N.length := (List.getElem?_eq_some_iff.mp n1).1
    rw [List.length_set] at hl'
    rw [List.getElem?_set_self (by omega)]
  · rw [List.length_set] at hl'
    intro hb2
    have e0 : ((σ'.set n (some (V.ref a))).set x (some (.ref q))).set n none = (σ'.set n none).set x (some (.ref q)) := by
      rw [List.set_comm _ _ (Ne.symm h6), List.set_set]
    show B.nx (((σ'.set n (some (V.ref a))).set x (some (.ref q))).set n none) (upd H' q (.frz o (.tup (V.str "no" :: cs.map fun c => V.bl (isExc k c)))))
    rw [e0]
    refine aft_caught (B := eHB B) (σ' := σ'.set n none) h' ?_ (by rw [List.length_set, hl', ← hl]; exact sr.len) hb2 ?_ hb2
    · exact ⟨fun b u nb hu => Ext.upd hq b u (ev.keep b u nb hu), fun b hu => ev.free b (by
        by_cases e : b = q
        · subst e; rw [upd_same] at hu; cases hu
        · rwa [upd_ne e] at hu)⟩
    · refine .tup (TupAt.new hd) (fr' q hq) (.cons (.str _) (reps_bls cs))
end
end Ev

/-! Ev24: when a text is such a block; blocks are sound. -/
namespace Ev
open PySem PySem.Spec L2
open PyProof.Rows hiding St
variable {Y : Tx}

/-- raise X('..') -/
def rsParts : Stmt → Option Str
  | .Raise (some (.Call (.Name x _) [.Constant (.str _) _ _] [] _)) none _ => some x
  | _ => none
theorem rsParts_ok {st : Stmt} {x : Str} (h : rsParts st = some x) : ∃ p m j p2 pos2 pos, st = .Raise (some (.Call (.Name x p) [.Constant (.str m) j p2] [] pos2)) none pos := by
  unfold rsParts at h
  split at h
  · cases h; exact ⟨_, _, _, _, _, _, rfl⟩
  · cases h
/-- try: bs / except cl (as nm): y = v -/
def trParts : Stmt → Option (List Stmt × Str × Option Str × Str × Expr)
  | .Try bs [.ExceptHandler (some (.Name cl _)) nm [.Assign [.Name y _] v _] _] [] [] _ => some (bs, cl, nm, y, v)
  | _ => none
theorem trParts_ok {st : Stmt} {r : List Stmt × Str × Option Str × Str × Expr} (h : trParts st = some r) : ∃ np p pos1 pos2 pos, st = .Try r.1 [.ExceptHandler (some (.Name r.2.1 np)) r.2.2.1 [.Assign [.Name r.2.2.2.1 p] r.2.2.2.2 pos1] pos2] [] [] pos := by
  unfold trParts at h
  split at h
  · cases h; exact ⟨_, _, _, _, _, rfl⟩
  · cases h
def noneE : Expr → Bool
  | .Constant .none _ _ => true
  | _ => false
theorem noneE_ok {e : Expr} (h : noneE e = true) : ∃ j p, e = .Constant .none j p := by
  unfold noneE at h
  split at h
  · exact ⟨_, _, rfl⟩
  · cases h
def noTup : Expr → Option (List Expr)
  | .Tuple (.Constant (.str z) _ _ :: es) _ _ => if z = "no" then some es else none
  | _ => none
theorem noTup_ok {e : Expr} {es : List Expr} (h : noTup e = some es) : ∃ j p2 j2 p3, e = .Tuple (.Constant (.str "no") j p2 :: es) j2 p3 := by
  unfold noTup at h
  split at h
  · split at h
    · rename_i q; subst q; cases h; exact ⟨_, _, _, _, rfl⟩
    · cases h
  · cases h
def mTr (Y : Tx) (N : List Str) (sc : Scope) (x : Nat) : Option (Nat × List Nat) → Option Str → Expr → Bool
  | none, none, v => noneE v
  | some (n, cs), some z, v => (match noTup v with
    | some es => vrB N sc n z && (sc.names.lookup z == some .local) && decide (n ≠ x) && mIs Y sc z cs es && decide (cs.length < 20 ∧ Y.xn 0 ≠ Y.xn 1)
    | none => false)
  | _, _, _ => false
mutual
def mS (Y : Tx) (N : List Str) (sc : Scope) : S → Stmt → Bool
  | .asg i e os, .Assign ts x _ => (match ts with
    | [.Name y _] => tgB N sc i y && mE Y N e sc x
    | _ => false)
  | .asgO i e os, .Assign ts x _ => (match ts with
    | [.Name y _] => tgB N sc i y && mE Y N e sc x && isFr e
    | _ => false)
  | .asgF i e os, .Assign ts x _ => (match ts with
    | [.Name y _] => tgB N sc i y && mE Y N e sc x && isFr e
    | _ => false)
  | .asgT is e os, .Assign ts x _ => (match ts with
    | [t] => mTG N sc (.tup is) t && mE Y N e sc x && (!isTupE x || foldE x)
    | _ => false)
  | .asgL is e os, .Assign ts x _ => (match ts with
    | [t] => mTG N sc (.tup is) t && mE Y N e sc x && !isTupE x
    | _ => false)
  | .setI x i e os, .Assign ts xe _ => (match ts with
    | [.Subscript (.Name y _) xi _] => vrB N sc x y && mE Y N e sc xe && mE Y N i sc xi && !isSl xi
    | _ => false)
  | .app x e os, .Expr v _ => (match v with
    | .Call (.Attribute (.Name y _) nm ap) [a] [] cp => vrB N sc x y && decide (nm = "append") && mE Y N e sc a && !isStar a && (ap.endLine == cp.line)
    | _ => false)
  | .ext x e os, .Expr v _ => (match v with
    | .Call (.Attribute (.Name y _) nm ap) [a] [] cp => vrB N sc x y && decide (nm = "extend") && mE Y N e sc a && !isStar a && (ap.endLine == cp.line)
    | _ => false)
  | .pop i x, .Assign ts v _ => (match ts, v with
    | [.Name z _], .Call (.Attribute (.Name y _) nm ap) [] [] cp => vrB N sc x y && decide (nm = "pop") && tgB N sc i z && (ap.endLine == cp.line)
    | _, _ => false)
  | .ret e, .Return v _ => (match v with
    | some x => mE Y N e sc x
    | none => false)
  | .iff t a b, .If tx xa xb _ => mE Y N t sc tx && mSL Y N sc a xa && mSL Y N sc b xb
  | .for_ tg it body fg os, .For t i bs els _ => (match els with
    | [] => mTG N sc tg t && mI Y N it sc i && (!mustTup it || isTupG tg) && !isSet i && mSL Y N sc body bs
    | _ :: _ => false)
  | .whl t body fg, .While tx bs els _ => (match els with
    | [] => mE Y N t sc tx && mSL Y N sc body bs
    | _ :: _ => false)
  | .cont, .Continue _ => true
  | .rse c, st => (match rsParts st with
    | some x => decide (c < 2) && decide (Y.xn c = some x) && glB sc x
    | none => false)
  | .tr body x as, st => (match trParts st with
    | some (bs, cl, nm, y, v) => decide (Y.xn 2 = some cl) && glB sc cl && tgB N sc x y && mTr Y N sc x as nm v && mSL Y N sc body bs
    | none => false)
  | _, _ => false
def mSL (Y : Tx) (N : List Str) (sc : Scope) : SL → List Stmt → Bool
  | .nil, [] => true
  | .cons s ss, st :: rest => mS Y N sc s st && mSL Y N sc ss rest
  | _, _ => false
end
mutual
theorem sndS {sc : Scope} : ∀ (s : S) (X : Cx) (w : Ws) (C : CokS Y X w sc) (st : Stmt), mS Y X.N sc s st = true → PS X st (tS w s)
  | .asg i e os, X, w, C, st, m => by
    cases st <;> try exact Bool.noConfusion (show false = true from m)
    rename_i ts x pos
    rcases ts with _ | ⟨t, _ | ⟨_, _⟩⟩ <;> try exact Bool.noConfusion (show false = true from m)
    · cases t <;> try exact Bool.noConfusion (show false = true from m)
      obtain ⟨m1, m2⟩ := and2 (show (tgB X.N sc i _ && mE Y X.N e sc x) = true from m)
      exact s_asg C m1 m2
    · cases t <;> exact Bool.noConfusion (show false = true from m)
  | .asgO i e os, X, w, C, st, m => by
    cases st <;> try exact Bool.noConfusion (show false = true from m)
    rename_i ts x pos
    rcases ts with _ | ⟨t, _ | ⟨_, _⟩⟩ <;> try exact Bool.noConfusion (show false = true from m)
    · cases t <;> try exact Bool.noConfusion (show false = true from m)
      obtain ⟨m1, m2, m3⟩ := and3 (show (tgB X.N sc i _ && mE Y X.N e sc x && isFr e) = true from m)
      exact s_asgO C m1 m2 m3
    · cases t <;> exact Bool.noConfusion (show false = true from m)
  | .asgF i e os, X, w, C, st, m => by
    cases st <;> try exact Bool.noConfusion (show false = true from m)
    rename_i ts x pos
    rcases ts with _ | ⟨t, _ | ⟨_, _⟩⟩ <;> try exact Bool.noConfusion (show false = true from m)
    · cases t <;> try exact Bool.noConfusion (show false = true from m)
      obtain ⟨m1, m2, m3⟩ := and3 (show (tgB X.N sc i _ && mE Y X.N e sc x && isFr e) = true from m)
      exact s_asgF C m1 m2 m3
    · cases t <;> exact Bool.noConfusion (show false = true from m)
  | .asgT is e os, X, w, C, st, m => by
    cases st <;> try exact Bool.noConfusion (show false = true from m)
    rename_i ts x pos
    rcases ts with _ | ⟨t, _ | ⟨_, _⟩⟩ <;> try exact Bool.noConfusion (show false = true from m)
    obtain ⟨m1, m2, m3⟩ := and3 (show (mTG X.N sc (.tup is) t && mE Y X.N e sc x && (!isTupE x || foldE x)) = true from m)
    refine s_asgT C m1 m2 ?_
    cases hf : foldE x with
    | true => exact nostoresF hf
    | false => exact nostoresT (by rw [hf, Bool.or_false] at m3; exact not_t m3)
  | .asgL is e os, X, w, C, st, m => by
    cases st <;> try exact Bool.noConfusion (show false = true from m)
    rename_i ts x pos
    rcases ts with _ | ⟨t, _ | ⟨_, _⟩⟩ <;> try exact Bool.noConfusion (show false = true from m)
    obtain ⟨m1, m2, m3⟩ := and3 (show (mTG X.N sc (.tup is) t && mE Y X.N e sc x && !isTupE x) = true from m)
    exact s_asgL C m1 m2 (nostoresT (not_t m3))
  | .setI x i e os, X, w, C, st, m => by
    cases st <;> try exact Bool.noConfusion (show false = true from m)
    rename_i ts xe pos
    rcases ts with _ | ⟨t, _ | ⟨_, _⟩⟩ <;> try exact Bool.noConfusion (show false = true from m)
    · cases t <;> try exact Bool.noConfusion (show false = true from m)
      rename_i o xi p
      cases o <;> try exact Bool.noConfusion (show false = true from m)
      obtain ⟨m1, m2, m3, m4⟩ := and4 (show (vrB X.N sc x _ && mE Y X.N e sc xe && mE Y X.N i sc xi && !isSl xi) = true from m)
      exact s_setI C m1 m2 m3 (not_t m4)
    · cases t <;> first | exact Bool.noConfusion (show false = true from m) | (rename_i o _ _; cases o <;> exact Bool.noConfusion (show false = true from m))
  | .app x e os, X, w, C, st, m => by
    cases st <;> try exact Bool.noConfusion (show false = true from m)
    rename_i v pos
    cases v <;> try exact Bool.noConfusion (show false = true from m)
    rename_i fn as kws cp
    cases fn <;> try exact Bool.noConfusion (show false = true from m)
    rename_i o nm ap
    cases o <;> try exact Bool.noConfusion (show false = true from m)
    rcases as with _ | ⟨a, _ | ⟨_, _⟩⟩ <;> try exact Bool.noConfusion (show false = true from m)
    rcases kws with _ | ⟨_, _⟩ <;> try exact Bool.noConfusion (show false = true from m)
    obtain ⟨m0, m4, m5⟩ := and3 (show (vrB X.N sc x _ && decide (nm = "append") && mE Y X.N e sc a && !isStar a && (ap.endLine == cp.line)) = true from m)
    obtain ⟨m1, m2, m3⟩ := and3 m0
    have m2 := of_decide_eq_true m2
    subst m2
    exact s_app C m1 m3 (not_t m4) m5
  | .ext x e os, X, w, C, st, m => by
    cases st <;> try exact Bool.noConfusion (show false = true from m)
    rename_i v pos
    cases v <;> try exact Bool.noConfusion (show false = true from m)
    rename_i fn as kws cp
    cases fn <;> try exact Bool.noConfusion (show false = true from m)
    rename_i o nm ap
    cases o <;> try exact Bool.noConfusion (show false = true from m)
    rcases as with _ | ⟨a, _ | ⟨_, _⟩⟩ <;> try exact Bool.noConfusion (show false = true from m)
    rcases kws with _ | ⟨_, _⟩ <;> try exact Bool.noConfusion (show false = true from m)
    obtain ⟨m0, m4, m5⟩ := and3 (show (vrB X.N sc x _ && decide (nm = "extend") && mE Y X.N e sc a && !isStar a && (ap.endLine == cp.line)) = true from m)
    obtain ⟨m1, m2, m3⟩ := and3 m0
    have m2 := of_decide_eq_true m2
    subst m2
    exact s_ext C m1 m3 (not_t m4) m5
  | .pop i x, X, w, C, st, m => by
    cases st <;> try exact Bool.noConfusion (show false = true from m)
    rename_i ts v pos
    rcases ts with _ | ⟨t, _ | ⟨_, _⟩⟩ <;> try exact Bool.noConfusion (show false = true from m)
    · cases t <;> try exact Bool.noConfusion (show false = true from m)
      cases v <;> try exact Bool.noConfusion (show false = true from m)
      rename_i fn as kws cp
      cases fn <;> try exact Bool.noConfusion (show false = true from m)
      rename_i o nm ap
      cases o <;> try exact Bool.noConfusion (show false = true from m)
      rcases as with _ | ⟨_, _⟩ <;> try exact Bool.noConfusion (show false = true from m)
      rcases kws with _ | ⟨_, _⟩ <;> try exact Bool.noConfusion (show false = true from m)
      obtain ⟨m1, m2, m3, m4⟩ := and4 (show (vrB X.N sc x _ && decide (nm = "pop") && tgB X.N sc i _ && (ap.endLine == cp.line)) = true from m)
      have m2 := of_decide_eq_true m2
      subst m2
      exact s_pop C m1 m3 m4
    · cases t <;> exact Bool.noConfusion (show false = true from m)
  | .appI _ _ _ _, X, w, C, st, m => by cases st <;> exact Bool.noConfusion (show false = true from m)
  | .ret e, X, w, C, st, m => by
    cases st <;> try exact Bool.noConfusion (show false = true from m)
    rename_i v pos
    cases v <;> try exact Bool.noConfusion (show false = true from m)
    exact s_ret C m
  | .iff t a b, X, w, C, st, m => by
    cases st <;> try exact Bool.noConfusion (show false = true from m)
    rename_i tx xa xb pos
    obtain ⟨m1, m2, m3⟩ := and3 (show (mE Y X.N t sc tx && mSL Y X.N sc a xa && mSL Y X.N sc b xb) = true from m)
    exact s_iff C m1 (sndSL a X w C xa m2) (sndSL b X w C xb m3)
  | .for_ tg it body fg os, X, w, C, st, m => by
    cases st <;> try exact Bool.noConfusion (show false = true from m)
    rename_i t i bs els pos
    rcases els with _ | ⟨_, _⟩ <;> try exact Bool.noConfusion (show false = true from m)
    obtain ⟨m0, m4, m5⟩ := and3 (show (mTG X.N sc tg t && mI Y X.N it sc i && (!mustTup it || isTupG tg) && !isSet i && mSL Y X.N sc body bs) = true from m)
    obtain ⟨m1, m2, m3⟩ := and3 m0
    have mg : mustTup it = true → isTupG tg = true := fun hm => by
      rw [hm] at m3; exact m3
    refine s_for C m1 m2 (fun hm => ?_) mg (not_t m4) (sndSL body X w C bs m5)
    have m3 := mg hm
    cases tg with
    | one _ => cases m3
    | tup is =>
      cases t <;> try exact Bool.noConfusion (show false = true from m1)
      exact ⟨_, _, _, rfl⟩
  | .whl t body fg, X, w, C, st, m => by
    cases st <;> try exact Bool.noConfusion (show false = true from m)
    rename_i tx bs els pos
    rcases els with _ | ⟨_, _⟩ <;> try exact Bool.noConfusion (show false = true from m)
    obtain ⟨m1, m2⟩ := and2 (show (mE Y X.N t sc tx && mSL Y X.N sc body bs) = true from m)
    exact s_whl C m1 (sndSL body X w C bs m2)
  | .cont, X, w, C, st, m => by
    cases st <;> try exact Bool.noConfusion (show false = true from m)
    exact s_cont
  | .rse c, X, w, C, st, m => by
    have m : (match rsParts st with
      | some x => decide (c < 2) && decide (Y.xn c = some x) && glB sc x
      | none => false) = true := by
      cases st <;> exact m
    cases q : rsParts st with
    | none => rw [q] at m; cases m
    | some x =>
      rw [q] at m
      obtain ⟨p, mm, j, p2, pos2, pos, rfl⟩ := rsParts_ok q
      obtain ⟨m1, m2, m3⟩ := and3 m
      exact s_rse C (of_decide_eq_true m1) (of_decide_eq_true m2) m3
  | .tr body x as, X, w, C, st, m => by
    have m : (match trParts st with
      | some (bs, cl, nm, y, v) => decide (Y.xn 2 = some cl) && glB sc cl && tgB X.N sc x y && mTr Y X.N sc x as nm v && mSL Y X.N sc body bs
      | none => false) = true := by
      cases st <;> exact m
    cases q : trParts st with
    | none => rw [q] at m; cases m
    | some r =>
      rw [q] at m
      obtain ⟨np, p, pos1, pos2, pos, rfl⟩ := trParts_ok q
      obtain ⟨bs, cl, nm, y, v⟩ := r
      obtain ⟨m0, m4, m5⟩ := and3 (show (decide (Y.xn 2 = some cl) && glB sc cl && tgB X.N sc x y && mTr Y X.N sc x as nm v && mSL Y X.N sc body bs) = true from m)
      obtain ⟨m1, m2, m3⟩ := and3 m0
      have hb : ∀ {X' : Cx} {w' : Ws}, CokS Y X' w' sc → X'.N = X.N → PSs X' bs (tSL w' body) := fun {X' w'} C' e => sndSL body X' w' C' bs (by rw [e]; exact m5)
      cases as with
      | none =>
        cases nm with
        | some _ => exact Bool.noConfusion (show false = true from m4)
        | none =>
          obtain ⟨j, p', rfl⟩ := noneE_ok (show noneE v = true from m4)
          exact s_tr0 C (of_decide_eq_true m1) m2 m3 hb
      | some nc =>
        obtain ⟨n, cs⟩ := nc
        cases nm with
        | none => exact Bool.noConfusion (show false = true from m4)
        | some z =>
          replace m4 : (match noTup v with
            | some es => vrB X.N sc n z && (sc.names.lookup z == some .local) && decide (n ≠ x) && mIs Y sc z cs es && decide (cs.length < 20 ∧ Y.xn 0 ≠ Y.xn 1)
            | none => false) = true := m4
          cases q2 : noTup v with
          | none => rw [q2] at m4; cases m4
          | some es =>
            rw [q2] at m4
            obtain ⟨j, p2, j2, p3, rfl⟩ := noTup_ok q2
            obtain ⟨k0, k4, k5⟩ := and3 (show (vrB X.N sc n z && (sc.names.lookup z == some .local) && decide (n ≠ x) && mIs Y sc z cs es && decide (cs.length < 20 ∧ Y.xn 0 ≠ Y.xn 1)) = true from m4)
            obtain ⟨k1, k2, k3⟩ := and3 k0
            exact s_trA C (of_decide_eq_true m1) m2 m3 k1 (beq_iff_eq.mp k2) (of_decide_eq_true k3) k4 (of_decide_eq_true k5).1 (of_decide_eq_true k5).2 hb
theorem sndSL {sc : Scope} : ∀ (s : SL) (X : Cx) (w : Ws) (C : CokS Y X w sc) (st : List Stmt), mSL Y X.N sc s st = true → PSs X st (tSL w s)
  | .nil, X, w, C, st, m => by
    cases st with
    | nil => exact s_nil
    | cons _ _ => exact Bool.noConfusion (show false = true from m)
  | .cons s ss, X, w, C, st, m => by
    cases st with
    | nil => exact Bool.noConfusion (show false = true from m)
    | cons st rest =>
      obtain ⟨m1, m2⟩ := and2 (show (mS Y X.N sc s st && mSL Y X.N sc ss rest) = true from m)
      exact s_cons (sndS s X w C st m1) (sndSL ss X w C rest m2)
end
end Ev

/-! Ev25: every def keeps its promise, by the depth of calls. -/
namespace Ev
open PySem PySem.Spec L2
open PyProof.Rows hiding St

def isDoc : Stmt → Bool
  | .Expr (.Constant (.str _) _ _) _ => true
  | _ => false
def noDoc : List Stmt → List Stmt
  | [] => []
  | st :: rest => if isDoc st then rest else st :: rest
def scopeB (N ps : List Str) (sc : Scope) : Bool :=
  sc.kind == .function && !sc.isCoroutine && !sc.isGenerator && decide N.Nodup && decide (N.take ps.length = ps) && ps.all (fun x => sc.names.lookup x == some .local || sc.names.lookup x == some .cell) && sc.names.all (fun y => y.2 != .free)
theorem scope_of {N ps : List Str} {sc : Scope} (h : scopeB N ps sc = true) : FnScope N ps sc := by
  unfold scopeB at h
  simp only [Bool.and_eq_true, Bool.not_eq_true', decide_eq_true_eq, List.all_eq_true, beq_iff_eq, Bool.or_eq_true, bne_iff_ne] at h
  obtain ⟨⟨⟨⟨⟨⟨h1, h2⟩, h3⟩, h4⟩, h5⟩, h6⟩, h7⟩ := h
  exact ⟨h1, h2, h3, h4, h5, h6, h7⟩
def defB (Y : Tx) (st : Stmt) (fd : FD) : Bool := scopeB fd.N (fd.N.take fd.nps) (defScope st) && decide (fd.nps ≤ fd.N.length) && mSL Y fd.N (defScope st) fd.body (noDoc (defBody st))
/-- a def of the text and its term -/
structure DefOk (Y : Tx) (st : Stmt) (fd : FD) : Prop where
  b : defB Y st fd = true
  bd : ∀ (kV doc pm : Value) (an : Option Addr) (cdv ct : Value) (us : List Value), us.length = (fd.N.take fd.nps).length →
    bindArgs (PySem.W.fnOf fd.name fd.name (defArgs st) (defBody st) (defScope st) .none kV doc pm an cdv ct) ⟨us, []⟩ = pure ((fd.N.take fd.nps).zip us)
abbrev txOf (fds : List FD) (gl : Nat → Option Str) (xn : Nat → Option Str) : Tx := ⟨fun f => (fds[f]?).map FD.name, gl, xn⟩
theorem pss_doc {X : Cx} {sts : List Stmt} {t : TS} (h : PSs X (noDoc sts) t) : PSs X sts t := by
  cases sts with
  | nil => exact h
  | cons st rest =>
    replace h : PSs X (if isDoc st then rest else st :: rest) t := h
    cases hd : isDoc st with
    | false => rw [hd] at h; exact h
    | true =>
      rw [hd] at h
      have h : PSs X rest t := h
      cases st <;> try exact Bool.noConfusion (show false = true from hd)
      rename_i v p
      cases v <;> try exact Bool.noConfusion (show false = true from hd)
      rename_i c k q
      cases c <;> try exact Bool.noConfusion (show false = true from hd)
      exact PSs.imp (pss_cons ps_doc h) fun D σ H z => z
theorem defs_ok {P : Program} {w : World} {K : PySem.W.Frag} {mg : Str → Option Value} {base : Heap} {fds : List FD} {gl xn : Nat → Option Str} {glob : Nat → Option D} {wf : Nat} {xc : Nat → Value}
    (hF : ∀ (f : Nat) (fd : FD), fds[f]? = some fd → ∃ st a fdt, DefOk (txOf fds gl xn) st fd ∧ FunD K fd.name fd.name (defArgs st) (defBody st) (defScope st) [] [] a fdt ∧ mg fd.name = some (.ref a))
    (hx : XcOk xn K mg xc) (hb : ∀ x ∈ bNames, mg (Str.ofString x) = none) (hg : ∀ g x, gl g = some x → ∀ d, glob g = some d → ∃ v u, mg x = some u ∧ RelV v u ∧ ∀ G H, Rep ⟨P, w, K⟩ G H v d) :
    ∀ (n f : Nat) (fd : FD), fds[f]? = some fd → ∀ st a fdt, DefOk (txOf fds gl xn) st fd → FunD K fd.name fd.name (defArgs st) (defBody st) (defScope st) [] [] a fdt →
      FnOk P w K mg base (L2.CX P w) n a fdt (fd.N.take fd.nps) (spF ⟨P, w, K⟩ xc (callE (fun f => fds[f]?) glob wf n f))
  | 0, f, fd, hf, st, a, fdt, ok, F => by
    have no : ∀ vs H Q E, ¬ spF ⟨P, w, K⟩ xc (callE (fun f => fds[f]?) glob wf 0 f) vs H Q E := fun vs H Q E ⟨_, _, _, _, h⟩ => h
    exact ⟨fun vs H Q E h => (no _ _ _ _ h).elim, fun A outer s H args us vs Q E _ _ _ _ h => (no _ _ _ _ h).elim⟩
  | n + 1, f, fd, hf, st, a, fdt, ok, F => by
    have ih := defs_ok (base := base) (wf := wf) (xc := xc) hF hx hb hg n
    obtain ⟨b1, b2, b3⟩ := and3 ok.b
    have S := scope_of b1
    have b2 := of_decide_eq_true b2
    have hlen : ∀ vs H Q E, spF ⟨P, w, K⟩ xc (callE (fun f => fds[f]?) glob wf (n + 1) f) vs H Q E → ∃ G ds, Fresh G H ∧ Reps ⟨P, w, K⟩ G H vs ds ∧ ds.length = fd.nps ∧ (match ((execL ⟨callE (fun f => fds[f]?) glob wf n, glob, wf⟩ fd.body (startE fd ds)).bind outR) with
        | .ok d => ∀ H', Ext H H' → HB H' → ∀ v, Rep ⟨P, w, K⟩ G H' v d → Q v H'
        | .exc c => ∀ H', Ext H H' → E (xc c) none H'
        | .bad => False) := fun vs H Q E ⟨G, ds, fr, rs, h⟩ => by
      have e : callE (fun f => fds[f]?) glob wf (n + 1) f ds = chk (decide (ds.length = fd.nps)) ((execL ⟨callE (fun f => fds[f]?) glob wf n, glob, wf⟩ fd.body (startE fd ds)).bind outR) := by
        show (match fds[f]? with | none => R.bad | some fd => chk (decide (ds.length = fd.nps)) ((execL ⟨callE (fun f => fds[f]?) glob wf n, glob, wf⟩ fd.body (startE fd ds)).bind outR)) = _
        rw [hf]
      rw [e] at h
      cases hd : decide (ds.length = fd.nps) with
      | false => rw [hd] at h; exact h.elim
      | true =>
        rw [hd] at h
        exact ⟨G, ds, fr, rs, of_decide_eq_true hd, h⟩
    have tl : (fd.N.take fd.nps).length = fd.nps := by rw [List.length_take]; omega
    refine F.ok S (fun vs H Q E h => ?_) fun cdv A outer s H vs Q E hr h => ?_
    · obtain ⟨G, ds, _, rs, hl, _⟩ := hlen vs H Q E h
      rw [rs.length, hl, tl]
    · obtain ⟨G, ds, fr, rs, hl, h⟩ := hlen vs H Q E h
      let X := cxOf (L2.CX P w) P w K mg base fd.N fd.name (defScope st) a cdv A outer s H E
      let W : Ws := ⟨⟨P, w, K⟩, ⟨callE (fun f => fds[f]?) glob wf n, glob, wf⟩, xc, fun cls d _ H => E cls d H⟩
      have C : CokS (txOf fds gl xn) X W (defScope st) := by
        refine ⟨⟨rfl, S.nd, rfl, ?_, takes_of (X := X) rfl rfl rfl rfl, fun x h => ?_, fun x h => ?_, fun x h => ?_, fun x h => h, hb, fun f' x h' => ?_, hg⟩, rfl, S.kind, passes_of (X := X) rfl, rfl, rfl, hx⟩
        · have := hr.un
          show (A.deeper _).units + 80 < cLine
          omega
        · unfold visB at h
          split at h
          · rename_i e; exact .inl e
          · rename_i e; exact .inr (.inl e)
          · rename_i e; exact .inr (.inr e)
          · cases h
        · unfold locB at h
          split at h
          · rename_i e; exact ⟨.inl e, .inl rfl⟩
          · rename_i e; exact ⟨.inr e, .inl rfl⟩
          · cases h
        · unfold glB at h
          have h := (and2 h).1
          split at h
          · rename_i e; exact e
          · cases h
        · have h' : (fds[f']?).map FD.name = some x := h'
          cases ef : fds[f']? with
          | none => rw [ef] at h'; cases h'
          | some fd' =>
            rw [ef] at h'
            cases h'
            obtain ⟨st', a', fdt', ok', F', hm⟩ := hF f' fd' ef
            exact ⟨n, a', fdt', _, hr, hm, F'.kp, F'.bindsN ok'.bd, ih f' fd' ef st' a' fdt' ok' F'⟩
      refine ⟨tSL W fd.body, pss_doc (sndSL fd.body X W C _ b3), G, startE fd ds, fr, ?_, ?_⟩
      · have vl := rs.length
        have noown : ∀ b, ¬ Own (startE fd ds) (L2.start fd.N vs) b := by
          rintro b ⟨i, d, h1, _⟩
          unfold startE at h1
          by_cases hi : i < (ds.map Slot.val).length
          · rw [List.getElem?_append_left hi, List.getElem?_map] at h1
            cases q : ds[i]? with
            | none => rw [q] at h1; cases h1
            | some z => rw [q] at h1; cases h1
          · rw [List.getElem?_append_right (by omega), List.getElem?_replicate] at h1
            split at h1 <;> cases h1
        refine ⟨?_, fun i d q => ?_, fun i d q => ?_, fun i j d d' b q1 _ z1 _ => (noown b ⟨i, d, q1, z1⟩).elim⟩
        · unfold L2.start startE
          simp only [List.length_append, List.length_map, List.length_replicate]
          omega
        · unfold startE at q
          by_cases hi : i < (ds.map Slot.val).length
          · rw [List.getElem?_append_left hi, List.getElem?_map] at q
            cases q2 : ds[i]? with
            | none => rw [q2] at q; cases q
            | some z =>
              rw [q2] at q
              cases q
              obtain ⟨v, h1, h2⟩ := rs.get q2
              refine ⟨v, ?_, Rep.imp (fun b z => ⟨z, noown b⟩) h2⟩
              unfold L2.start
              have hi' : i < vs.length := by rw [vl]; simpa using hi
              rw [List.getElem?_append_left (by simpa using hi'), List.getElem?_map, h1]
              rfl
          · rw [List.getElem?_append_right (by omega), List.getElem?_replicate] at q
            split at q <;> cases q
        · exfalso
          unfold startE at q
          by_cases hi : i < (ds.map Slot.val).length
          · rw [List.getElem?_append_left hi, List.getElem?_map] at q
            cases q2 : ds[i]? with
            | none => rw [q2] at q; cases q
            | some z => rw [q2] at q; cases q
          · rw [List.getElem?_append_right (by omega), List.getElem?_replicate] at q
            split at q <;> cases q
      · have noown : ∀ b, ¬ Own (startE fd ds) (L2.start fd.N vs) b := by
          rintro b ⟨i, d, h1, _⟩
          unfold startE at h1
          by_cases hi : i < (ds.map Slot.val).length
          · rw [List.getElem?_append_left hi, List.getElem?_map] at h1
            cases q : ds[i]? with
            | none => rw [q] at h1; cases h1
            | some z => rw [q] at h1; cases h1
          · rw [List.getElem?_append_right (by omega), List.getElem?_replicate] at h1
            split at h1 <;> cases h1
        have ext : ∀ {H' : Hp}, Evo (fun a => ¬ Own (startE fd ds) (L2.start fd.N vs) a) H H' → Ext H H' := fun e b o z => e.keep b o (noown b) z
        show AftS W G _ _ _ H (execL ⟨callE (fun f => fds[f]?) glob wf n, glob, wf⟩ fd.body (startE fd ds))
        cases ex : execL ⟨callE (fun f => fds[f]?) glob wf n, glob, wf⟩ fd.body (startE fd ds) with
        | bad => rw [ex] at h; exact h.elim
        | exc c => rw [ex] at h; exact fun σ' H' e => h H' (ext e)
        | ok fl =>
          rw [ex] at h
          cases fl with
          | nx e => exact fun σ' H' _ s b => h H' (ext s.evo) b _ .non
          | rt d => exact fun v H' e b r => h H' (ext e) b v r
          | ct e => exact h.elim
end Ev

/-! Ev26: a law's end. -/
namespace Ev
open PySem PySem.Spec L2
open PyProof.Rows hiding St
def CXs (P : Program) : CXT := fun outer H s E u s' => ∃ w, L2.CX P w outer H s E u s'
theorem fn_cxs {P : Program} {w : World} {K : PySem.W.Frag} {mg : Str → Option Value} {base : Heap} {k : Nat} {f : Addr} {fd : FuncData} {ps : List Str} {sp : Sp} (F : FnOk P w K mg base (L2.CX P w) k f fd ps sp) : FnOk P w K mg base (CXs P) k f fd ps sp :=
  ⟨F.len, fun A outer s H args us vs Q E hr he hb hv hs => codeAny_mono (F.run A outer s H args us vs Q E hr he hb hv hs) fun r s' q => by
    cases r with
    | error e => exact ⟨w, q⟩
    | ok fl => cases fl <;> exact q⟩
theorem cxs_no {P : Program} (H : Hp) (s : Shared) (e : Value) (s' : Shared) (h : CXs P [] H s (fun _ _ _ => False) e s') : False := by
  obtain ⟨_, _, _, _, _, _, _, _, _, _, _, _, _, z⟩ := h
  exact z
/-- what the law's def promises, from its evaluation -/
theorem sp_law {T : Wd} {f : List D → R D} {xc : Nat → Value} {H : Hp} {a : Addr} {ns : List Int} (h : f [.scr ns] = .ok (.bl true)) (hS : SqL T.K H a (ns.map V.int)) : spF T xc f [.ref a] H (fun v _ => v = .bl true) fun _ _ _ => False := by
  refine ⟨fun _ => True, [.scr ns], fun _ _ => trivial, .cons (.scr ?_) .nil, ?_⟩
  · rcases hS with hS | hS
    · exact .inl ⟨hS, trivial⟩
    · exact .inr fun _ => .inr hS
  · rw [h]
    intro H' _ _ v r
    cases r
    rfl
end Ev

/-! Ev27: the head's facts with one more Bool; the own exceptions' classes. -/
namespace Ev
open PySem PySem.Spec L2
open PyProof.Rows hiding St
open He (ga veBase eqO eqO_ok ba Fa DefD frG asD frG_in obsD valD SaysD AlD)
abbrev AlY : Type := AlD × Bool
def obsYG (n : Nat) (fa : List Fa) (fn : List DefD) (ex : PySem.W.Frag → Bool) (g : Addr → Option Obj) : AlY := (obsD fa fn (frG g (asD g n)), ex (frG g (asD g n)))
def hookY (n : Nat) (fa : List Fa) (fn : List DefD) (ex : PySem.W.Frag → Bool) : PySem.W.Hook where
  α := AlY
  obs := fun s => obsYG n fa fn ex s.heap.get?
  val := fun _ => (valD fn, true)
  says := fun _ h => ∃ K : PySem.W.Frag, K.In h ∧ SaysD fa fn K ∧ ex K = true
  of := fun _ _ e => ⟨_, frG_in, congrArg (fun z : AlY => z.1) e, congrArg (fun z : AlY => z.2) e⟩
  keeps := fun _ _ _ ⟨K, hK, c⟩ k => ⟨K, PySem.W.Frag.In.keeps hK k, c⟩
theorem obsYG_eq {n : Nat} {fa : List Fa} {fn : List DefD} {ex : PySem.W.Frag → Bool} {g : Addr → Option Obj} {s : Shared} (h : ∀ a, g a = s.heap.get? a) : obsYG n fa fn ex g = (hookY n fa fn ex).obs s := by
  have e : g = s.heap.get? := funext h
  rw [e] <;> rfl
/-! ### an own exception's class -/
def excB (K : PySem.W.Frag) (x : Str) : Bool :=
  eqO (PySem.W.nsIn K mainGlobals x) (some (some (.ref (ga K x)))) && (PySem.W.excIn K (ga K x) veBase "ValueError.__new__" && (PySem.W.keepIn K (.ref (ga K x)) &&
  (decide (PySem.W.subIn K (.ref (ga K x)) (.type "BaseException") = some true) && (decide (PySem.W.typeIn K (.ref (ga K x)) = some (.type "type")) &&
  (eqO (PySem.W.findIn K (.ref (ga K x)) "__getattribute__") (some (some (.builtin "BaseException.__getattribute__"))) && (eqO (PySem.W.findIn K (.ref (ga K x)) "__getattr__") (some none) &&
  (PySem.W.hasDictIn K (ga K x) && (eqO (PySem.W.findIn K (.ref (ga K x)) "__class__") (some (some (.builtin "object.__class__"))) &&
  (eqO (PySem.W.specialIn K (.builtin "object.__class__") "__get__") (some (some (.builtin "getset_descriptor.__get__"))) && (decide (PySem.W.takesIn K (.builtin "object.__class__") = some true) && decide (PySem.W.mroIn K (ga K x) (.type "object") = some true)))))))))))
theorem excB_ok {K : PySem.W.Frag} {h : Heap} {mg : Str → Option Value} (X : K.In h) (G : h.Ns mainGlobals mg) {x : Str} (e : excB K x = true) :
    mg x = some (.ref (ga K x)) ∧ PySem.W.excIn K (ga K x) veBase "ValueError.__new__" = true ∧ PySem.W.keepIn K (.ref (ga K x)) = true ∧ PySem.W.subIn K (.ref (ga K x)) (.type "BaseException") = some true ∧ PySem.W.typeIn K (.ref (ga K x)) = some (.type "type") ∧ ExcC K (ga K x) := by
  obtain ⟨h1, e⟩ := ba e
  obtain ⟨h2, e⟩ := ba e
  obtain ⟨h3, e⟩ := ba e
  obtain ⟨h4, e⟩ := ba e
  obtain ⟨h5, e⟩ := ba e
  obtain ⟨h6, e⟩ := ba e
  obtain ⟨h7, e⟩ := ba e
  obtain ⟨h8, e⟩ := ba e
  obtain ⟨h9, e⟩ := ba e
  obtain ⟨h10, e⟩ := ba e
  obtain ⟨h11, h12⟩ := ba e
  exact ⟨He.glo_ok X G (x := x) h1, h2, h3, of_decide_eq_true h4, of_decide_eq_true h5, ⟨eqO_ok h6, eqO_ok h7, of_decide_eq_true h4, h8, eqO_ok h9, eqO_ok h10, of_decide_eq_true h11, of_decide_eq_true h12⟩⟩
/-! ### none, one, both -/
def xn0 : Nat → Option Str := fun _ => none
theorem xok0 {K : PySem.W.Frag} {mg : Str → Option Value} {xc : Nat → Value} : XcOk xn0 K mg xc := ⟨(fun _ _ _ h => by cases h), (fun _ _ _ h => by cases h), (fun _ h => by cases h), (fun _ _ _ _ h => absurd rfl h)⟩
/-- raised only: NoMove -/
def xn1 : Nat → Option Str
  | 0 => some "NoMove"
  | _ => none
def xc1 (K : PySem.W.Frag) : Nat → Value := fun _ => .ref (ga K "NoMove")
def ex1 (K : PySem.W.Frag) : Bool := excB K "NoMove"
theorem xok1 {K : PySem.W.Frag} {h : Heap} {mg : Str → Option Value} (X : K.In h) (G : h.Ns mainGlobals mg) (e : ex1 K = true) : XcOk xn1 K mg (xc1 K) := by
  obtain ⟨h1, h2, h3, h4, h5, h6⟩ := excB_ok X G e
  refine ⟨fun k x hk hx => ?_, (fun _ _ _ h => by cases h), (fun _ h => by cases h), (fun _ _ _ _ h => absurd rfl h)⟩
  match k, hx with
  | 0, hx => cases hx; exact ⟨_, rfl, h1, h2, h3, h4, h5, h6⟩
  | _ + 1, hx => cases hx
/-- NoText alone, caught as MillError -/
def xn2 : Nat → Option Str
  | 0 => some "NoText"
  | 1 => some "NoText"
  | 2 => some "MillError"
  | _ => none
def xc2 (K : PySem.W.Frag) : Nat → Value := fun _ => .ref (ga K "NoText")
def ex2 (K : PySem.W.Frag) : Bool := excB K "NoText" && (eqO (PySem.W.nsIn K mainGlobals "MillError") (some (some (.ref (ga K "MillError")))) && decide (PySem.W.exmOne K (.ref (ga K "NoText")) (.ref (ga K "MillError")) = some true))
theorem xok2 {K : PySem.W.Frag} {h : Heap} {mg : Str → Option Value} (X : K.In h) (G : h.Ns mainGlobals mg) (e : ex2 K = true) : XcOk xn2 K mg (xc2 K) := by
  obtain ⟨e, f⟩ := ba e
  obtain ⟨f1, f2⟩ := ba f
  obtain ⟨h1, h2, h3, h4, h5, h6⟩ := excB_ok X G e
  refine ⟨fun k x hk hx => ?_, fun k x hk _ => ?_, fun x h => ?_, fun _ _ _ _ _ h => absurd rfl h⟩
  · match k, hk, hx with
    | 0, _, hx => cases hx; exact ⟨_, rfl, h1, h2, h3, h4, h5, h6⟩
    | 1, _, hx => cases hx; exact ⟨_, rfl, h1, h2, h3, h4, h5, h6⟩
  · match k, hk with
    | 0, _ => exact ⟨_, rfl⟩
    | 1, _ => exact ⟨_, rfl⟩
  · cases h
    exact ⟨_, He.glo_ok X G (x := "MillError") f1, fun _ _ => of_decide_eq_true f2⟩
/-- both, told apart -/
def xn3 : Nat → Option Str
  | 0 => some "NoMove"
  | 1 => some "NoText"
  | 2 => some "MillError"
  | 3 => some "ValueError"
  | _ => none
def xc3 (K : PySem.W.Frag) : Nat → Value
  | 0 => .ref (ga K "NoMove")
  | _ => .ref (ga K "NoText")
def cv3 (K : PySem.W.Frag) : Nat → Value
  | 0 => .ref (ga K "NoMove")
  | 1 => .ref (ga K "NoText")
  | 2 => .ref (ga K "MillError")
  | _ => .type "ValueError"
def ex3 (K : PySem.W.Frag) : Bool := excB K "NoMove" && (excB K "NoText" && (eqO (PySem.W.nsIn K mainGlobals "MillError") (some (some (.ref (ga K "MillError")))) && (eqO (PySem.W.nsIn K mainGlobals "ValueError") (some none) &&
  (decide (PySem.W.exmOne K (.ref (ga K "NoMove")) (.ref (ga K "MillError")) = some true) && (decide (PySem.W.exmOne K (.ref (ga K "NoText")) (.ref (ga K "MillError")) = some true) &&
  ([0, 1].all fun k => [0, 1, 2, 3].all fun c => decide (PySem.W.kitOne K (xc3 K k) (cv3 K c) = some (isExc k c))))))))
theorem boot_ValueError : bootBuiltins "ValueError" = some (.type "ValueError") := by decide +kernel
theorem xok3 {K : PySem.W.Frag} {h : Heap} {mg : Str → Option Value} (X : K.In h) (G : h.Ns mainGlobals mg) (e : ex3 K = true) : XcOk xn3 K mg (xc3 K) := by
  obtain ⟨a, e⟩ := ba e
  obtain ⟨b, e⟩ := ba e
  obtain ⟨c, e⟩ := ba e
  obtain ⟨d, e⟩ := ba e
  obtain ⟨f1, e⟩ := ba e
  obtain ⟨f2, kk⟩ := ba e
  obtain ⟨h1, h2, h3, h4, h5, h6⟩ := excB_ok X G a
  obtain ⟨g1, g2, g3, g4, g5, g6⟩ := excB_ok X G b
  have gm := He.glo_ok X G (x := "MillError") c
  have gv := He.free_ok X G (x := "ValueError") d
  refine ⟨fun k x hk hx => ?_, fun k x hk _ => ?_, fun x h => ?_, fun k c x hk _ _ hx => ?_⟩
  · match k, hk, hx with
    | 0, _, hx => cases hx; exact ⟨_, rfl, h1, h2, h3, h4, h5, h6⟩
    | 1, _, hx => cases hx; exact ⟨_, rfl, g1, g2, g3, g4, g5, g6⟩
  · match k, hk with
    | 0, _ => exact ⟨_, rfl⟩
    | 1, _ => exact ⟨_, rfl⟩
  · cases h
    refine ⟨_, gm, fun k hk => ?_⟩
    match k, hk with
    | 0, _ => exact of_decide_eq_true f1
    | 1, _ => exact of_decide_eq_true f2
  · have kit : ∀ c, c < 4 → PySem.W.kitOne K (xc3 K k) (cv3 K c) = some (isExc k c) := fun c hc => by
      rw [List.all_eq_true] at kk
      have h1 := kk k (by simp; omega)
      rw [List.all_eq_true] at h1
      exact of_decide_eq_true (h1 c (by simp; omega))
    match c, hx with
    | 0, hx => cases hx; exact ⟨.ref (ga K "NoMove"), _, .inl h1, rfl, fun u r => r, kit 0 (by omega)⟩
    | 1, hx => cases hx; exact ⟨.ref (ga K "NoText"), _, .inl g1, rfl, fun u r => r, kit 1 (by omega)⟩
    | 2, hx => cases hx; exact ⟨.ref (ga K "MillError"), _, .inl gm, rfl, fun u r => r, kit 2 (by omega)⟩
    | 3, hx => cases hx; exact ⟨.ty "ValueError", _, .inr ⟨gv, boot_ValueError⟩, rfl, fun u r => r, kit 3 (by omega)⟩
    | _ + 4, hx => cases hx
end Ev

/-! Ev28: the head's facts with written tables. -/
namespace Ev
open PySem PySem.Spec L2
open PyProof.Rows hiding St
open He (ga veBase eqO eqO_ok ba Fa DefD frG asD frG_in obsD valD SaysD AlD dicW keysIn dicW_ok)
/-- a table with text keys: where, its keys -/
abbrev TabK : Type := Str × List Str
abbrev AlZ : Type := AlD × (Bool × List (Option (List (Option (Str × Int)))))
def obsZK (fa : List Fa) (fn : List DefD) (ex : PySem.W.Frag → Bool) (ts : List TabK) (K : PySem.W.Frag) : AlZ := (obsD fa fn K, (ex K, ts.map fun t : TabK => dicW K (ga K t.1)))
def obsZG (n : Nat) (fa : List Fa) (fn : List DefD) (ex : PySem.W.Frag → Bool) (ts : List TabK) (g : Addr → Option Obj) : AlZ := obsZK fa fn ex ts (frG g (asD g n))
def TabsOk (ts : List TabK) (w : World) (K : PySem.W.Frag) : Prop := (ts.map fun t : TabK => dicW K (ga K t.1)) = ts.map fun t : TabK => some (keysIn w.params t.2)
def hookZ (n : Nat) (fa : List Fa) (fn : List DefD) (ex : PySem.W.Frag → Bool) (ts : List TabK) : PySem.W.Hook where
  α := AlZ
  obs := fun s => obsZG n fa fn ex ts s.heap.get?
  val := fun w => (valD fn, (true, ts.map fun t : TabK => some (keysIn w.params t.2)))
  says := fun w h => ∃ K : PySem.W.Frag, K.In h ∧ SaysD fa fn K ∧ ex K = true ∧ TabsOk ts w K
  of := fun _ _ e => ⟨_, frG_in, congrArg (fun z : AlZ => z.1) e, congrArg (fun z : AlZ => z.2.1) e, congrArg (fun z : AlZ => z.2.2) e⟩
  keeps := fun _ _ _ ⟨K, hK, c⟩ k => ⟨K, PySem.W.Frag.In.keeps hK k, c⟩
theorem obsZG_eq {n : Nat} {fa : List Fa} {fn : List DefD} {ex : PySem.W.Frag → Bool} {ts : List TabK} {g : Addr → Option Obj} {s : Shared} (h : ∀ a, g a = s.heap.get? a) : obsZG n fa fn ex ts g = (hookZ n fa fn ex ts).obs s := by
  have e : g = s.heap.get? := funext h
  rw [e] <;> rfl
theorem TabsOk.tab {ts : List TabK} {w : World} {K : PySem.W.Frag} (c : TabsOk ts w K) (i : Nat) {t : TabK} (h : ts[i]? = some t := by rfl) : ∃ es n, KDict K w (ga K t.1) es n := by
  have e2 : (ts.map fun t : TabK => dicW K (ga K t.1))[i]? = (ts.map fun t : TabK => some (keysIn w.params t.2))[i]? := by rw [c]
  rw [List.getElem?_map, List.getElem?_map, h] at e2
  exact dicW_ok (Option.some.inj e2)
/-- a constant of the table -/
def cstE : D → Value → Bool
  | .non, .none => true
  | .int i, .int j _ => decide (i = j)
  | .str s, .str t _ => decide (s = t)
  | _, _ => false
theorem cstE_ok {d : D} {u : Value} (h : cstE d u = true) : ∃ v, cstV d = some v ∧ RelV v u := by
  cases d <;> cases u <;> first | (cases h; done) | skip
  · exact ⟨.non, rfl, rfl⟩
  · have e := of_decide_eq_true h
    subst e
    exact ⟨_, rfl, _, rfl⟩
  · have e := of_decide_eq_true h
    subst e
    exact ⟨_, rfl, _, rfl⟩
theorem nk_rel {P : Program} {w : World} {d : D} {u : Value} (hk : keyF d = true) (h : cstE d u = true) : (noneKind P w).is (fkey d) u = true := by
  obtain ⟨v, e, r⟩ := cstE_ok h
  exact fkey_is (T := ⟨P, w, []⟩) (G := fun _ => True) (H := fun _ => none) (cst_rep e) r hk
def entsV : List DictEntry → List (D × D) → Bool
  | [], [] => true
  | e :: es, (k, d) :: kvs => (keyF k && (cstE k e.key && cstE d e.val)) && entsV es kvs
  | _, _ => false
/-- the hash of a key that is no text -/
def hashN : D → Option Int
  | .non => some (reduceHash 0xFCA86420)
  | .int k => some (hashInt k)
  | _ => none
def entsH : List DictEntry → List (D × D) → Bool
  | [], [] => true
  | e :: es, (k, _) :: kvs => decide (hashN k = some e.hash) && entsH es kvs
  | _, _ => false
def atT (K : PySem.W.Frag) (a : Addr) (f : List DictEntry → Bool) : Bool := match K.lookup a with
  | some ⟨.type c, none, .dict es _, sl⟩ => decide (c = "dict") && (sl.isEmpty && (!(a == sysModules) && f es.toList))
  | _ => false
theorem atT_ok {K : PySem.W.Frag} {a : Addr} {f : List DictEntry → Bool} (h : atT K a f = true) : ∃ es n, K.lookup a = some ⟨.type "dict", none, .dict es n, #[]⟩ ∧ (a == sysModules) = false ∧ f es.toList = true := by
  unfold atT at h
  split at h
  · rename_i c es n sl q
    obtain ⟨h1, h2⟩ := ba h
    obtain ⟨h3, h4⟩ := ba h2
    obtain ⟨h5, h6⟩ := ba h4
    have e1 : c = "dict" := of_decide_eq_true h1
    have e2 : sl = #[] := Array.isEmpty_iff.mp h3
    subst e1 e2
    exact ⟨es, n, q, not_t h5, h6⟩
  · cases h
theorem tabL_num {P : Program} {w : World} : ∀ {es : List DictEntry} {kvs : List (D × D)}, entsV es kvs = true → entsH es kvs = true → TabL P w es kvs
  | [], [], _, _ => True.intro
  | e :: es, (k, d) :: kvs, h1, h2 => by
    obtain ⟨a, b⟩ := ba h1
    obtain ⟨a1, a2⟩ := ba a
    obtain ⟨a3, a4⟩ := ba a2
    obtain ⟨c, c2⟩ := ba h2
    have c := of_decide_eq_true c
    refine ⟨⟨a1, nk_rel a1 a3, ?_, cstE_ok a4⟩, tabL_num b c2⟩
    cases k <;> first | (cases a1; done) | (cases c; done) | skip
    · exact (Option.some.inj c).symm
    · exact (Option.some.inj c).symm
theorem tabL_txt {P : Program} {w : World} : ∀ {es : List DictEntry} {kvs : List (D × D)}, entsV es kvs = true → PySem.W.KeysLit w.params es → TabL P w es kvs
  | [], [], _, _ => True.intro
  | e :: es, (k, d) :: kvs, h1, h2 => by
    obtain ⟨a, b⟩ := ba h1
    obtain ⟨a1, a2⟩ := ba a
    obtain ⟨a3, a4⟩ := ba a2
    obtain ⟨⟨x, t, e1, e2⟩, c2⟩ := h2
    refine ⟨⟨a1, nk_rel a1 a3, ?_, cstE_ok a4⟩, tabL_txt b c2⟩
    rw [e1] at a3
    cases k <;> first | (cases a1; done) | (cases a3; done) | skip
    have e := of_decide_eq_true a3
    subst e
    rw [e2]; rfl
theorem tab_num {P : Program} {w : World} {K : PySem.W.Frag} {a : Addr} {kvs : List (D × D)} (h : atT K a (fun es => entsV es kvs && entsH es kvs) = true) : TabAt P w K a kvs := by
  obtain ⟨es, n, e, low, h⟩ := atT_ok h
  obtain ⟨h1, h2⟩ := ba h
  exact ⟨low, _, e, ⟨rfl, rfl, rfl⟩, es, n, rfl, tabL_num h1 h2⟩
theorem tab_txt {P : Program} {w : World} {K : PySem.W.Frag} {a : Addr} {kvs : List (D × D)} (h : atT K a (fun es => entsV es kvs) = true) (kd : ∃ es n, KDict K w a es n) : TabAt P w K a kvs := by
  obtain ⟨es, n, e, low, h⟩ := atT_ok h
  obtain ⟨es', n', kd⟩ := kd
  have e2 := e.symm.trans kd.at_
  cases e2
  exact ⟨low, _, e, ⟨rfl, rfl, rfl⟩, es, n, rfl, tabL_txt h kd.lit⟩
/-! ### a habit of the world, either way -/
def setW (w : World) (b : Bool) : World := { w with params := { w.params with followText := fun r => if r = "special-get-raises" then b else w.params.followText r } }
theorem setW_eq (w : World) : setW w (w.params.followText "special-get-raises") = w := by
  have e : (fun r => if r = "special-get-raises" then w.params.followText "special-get-raises" else w.params.followText r) = w.params.followText := by
    funext r
    by_cases h : r = "special-get-raises"
    · rw [if_pos h, h]
    · rw [if_neg h]
  unfold setW
  rw [e]
end Ev

/-! P1: plain lemmas about the evaluator's parts. -/
namespace Ev
theorem compL_some {f : D → R (Option D)} {g : D → D} : ∀ {ds : List D}, (∀ d ∈ ds, f d = .ok (some (g d))) → compL f ds = .ok (ds.map g)
  | [], _ => rfl
  | d :: ds, h => by
    show ((f d).bind fun o => (compL f ds).bind fun r => .ok (o.toList ++ r)) = _
    rw [h d List.mem_cons_self, compL_some fun x hx => h x (List.mem_cons_of_mem _ hx)]
    rfl
theorem compL_map {α : Type} {f : D → R (Option D)} {e : α → D} {g : α → D} : ∀ {xs : List α}, (∀ x ∈ xs, f (e x) = .ok (some (g x))) → compL f (xs.map e) = .ok (xs.map g)
  | [], _ => rfl
  | x :: xs, h => by
    show ((f (e x)).bind fun o => (compL f (xs.map e)).bind fun r => .ok (o.toList ++ r)) = _
    rw [h x List.mem_cons_self, compL_map fun x hx => h x (List.mem_cons_of_mem _ hx)]
    rfl
theorem compL_opt {α : Type} {f : D → R (Option D)} {e : α → D} {g : α → Option D} : ∀ {xs : List α}, (∀ x ∈ xs, f (e x) = .ok (g x)) → compL f (xs.map e) = .ok (xs.filterMap g)
  | [], _ => rfl
  | x :: xs, h => by
    show ((f (e x)).bind fun o => (compL f (xs.map e)).bind fun r => .ok (o.toList ++ r)) = _
    rw [h x List.mem_cons_self, compL_opt fun x hx => h x (List.mem_cons_of_mem _ hx), List.filterMap_cons]
    cases g x <;> rfl
theorem bls?_of {α : Type} (p : α → Bool) : ∀ xs : List α, bls? (xs.map fun x => D.bl (p x)) = some (xs.map p)
  | [] => rfl
  | x :: xs => by
    show (bls? (xs.map fun x => D.bl (p x))).map (p x :: ·) = _
    rw [bls?_of p xs]; rfl
theorem ints?_of : ∀ xs : List Int, ints? (xs.map D.int) = some xs
  | [] => rfl
  | x :: xs => by
    show (ints? (xs.map D.int)).map (x :: ·) = _
    rw [ints?_of xs]; rfl
theorem tups?_of : ∀ xs : List (List Int), (∀ x ∈ xs, x ≠ []) → tups? (xs.map intT) = some xs
  | [], _ => rfl
  | x :: xs, h => by
    have h1 := h x List.mem_cons_self
    have h2 := tups?_of xs fun y hy => h y (List.mem_cons_of_mem _ hy)
    cases x with
    | nil => exact absurd rfl h1
    | cons a r =>
      show (match ints? ((a :: r).map D.int), tups? (xs.map intT) with
        | some (x :: r), some rs => some ((x :: r) :: rs)
        | _, _ => none) = _
      rw [ints?_of, h2]
theorem sortD_ints (xs : List Int) : sortD (xs.map D.int) = .ok (.lst ((sortI xs).map .int)) := by
  unfold sortD; rw [ints?_of]
theorem sortD_tups (xs : List (List Int)) (h : ∀ x ∈ xs, x ≠ []) : sortD (xs.map intT) = .ok (.lst ((sortT xs).map intT)) := by
  unfold sortD
  cases xs with
  | nil => rfl
  | cons x r =>
    rw [tups?_of _ h]
    rfl
/-- a for without a return -/
theorem forL_inv {body : SEnv → R Fl} {tg : TG} {fg : List Nat} (P : List D → SEnv → Prop) : ∀ {ds : List D} {env : SEnv}, P ds env →
    (∀ d ds env, P (d :: ds) env → ∃ env1 e, setTS tg d env = .ok env1 ∧ (body env1 = .ok (.nx e) ∨ body env1 = .ok (.ct e)) ∧ P ds (forget fg e)) → ∃ e, forL body tg fg ds env = .ok (.nx e) ∧ P [] e
  | [], env, h, _ => ⟨env, rfl, h⟩
  | d :: ds, env, h, s => by
    obtain ⟨env1, e, h1, h2, h3⟩ := s d ds env h
    obtain ⟨e', h4, h5⟩ := forL_inv P h3 s
    refine ⟨e', ?_, h5⟩
    show ((setTS tg d env).bind fun env1 => (body env1).bind fun fl => match fl with
      | .nx e => forL body tg fg ds (forget fg e)
      | .ct e => forL body tg fg ds (forget fg e)
      | .rt v => .ok (.rt v)) = _
    rw [h1]
    rcases h2 with h2 | h2
    · show ((body env1).bind _) = _
      rw [h2]; exact h4
    · show ((body env1).bind _) = _
      rw [h2]; exact h4
theorem forL_cons {body : SEnv → R Fl} {tg : TG} {fg : List Nat} {d : D} {ds : List D} {env : SEnv} : forL body tg fg (d :: ds) env = (setTS tg d env).bind fun env1 => (body env1).bind fun fl => match fl with
      | .nx e => forL body tg fg ds (forget fg e)
      | .ct e => forL body tg fg ds (forget fg e)
      | .rt v => .ok (.rt v) := rfl
theorem forL_ret {body : SEnv → R Fl} {tg : TG} {fg : List Nat} {d v : D} {ds : List D} {env env1 : SEnv} (h : setTS tg d env = .ok env1) (hb : body env1 = .ok (.rt v)) : forL body tg fg (d :: ds) env = .ok (.rt v) := by
  rw [forL_cons, h]
  show (body env1).bind _ = _
  rw [hb]; rfl
/-- the neighbours rise -/
def ris {α : Type} (lt : α → α → Bool) : List α → Bool
  | a :: b :: r => lt a b && ris lt (b :: r)
  | _ => true
theorem ris_ix {α : Type} [Inhabited α] (lt : α → α → Bool) : ∀ xs : List α, ((List.range (xs.length - 1)).all fun k => lt (xs.getD k default) (xs.getD (k + 1) default)) = ris lt xs
  | [] => rfl
  | [_] => rfl
  | a :: b :: r => by
    have ih := ris_ix lt (b :: r)
    show (List.range (r.length + 1)).all _ = (lt a b && ris lt (b :: r))
    rw [List.range_succ_eq_map, List.all_cons, List.all_map, ← ih]
    rfl
theorem ris_pw {α : Type} {lt : α → α → Bool} : ∀ {xs : List α}, xs.Pairwise (fun a b => lt a b = true) → ris lt xs = true
  | [], _ => rfl
  | [_], _ => rfl
  | a :: b :: r, h => by
    obtain ⟨h1, h2⟩ := List.pairwise_cons.mp h
    show (lt a b && ris lt (b :: r)) = true
    rw [h1 b List.mem_cons_self, ris_pw h2]; rfl
theorem atI_nat {α : Type} {xs : List α} {k : Nat} (h : k < xs.length) : atI xs (k : Int) = some xs[k] := by
  unfold atI ixN
  have h1 : (0 : Int) ≤ k := by omega
  have h2 : (k : Int) < xs.length := by omega
  simp only [h1, h2, if_true, Option.bind_some, Int.toNat_natCast]
  simp [h]
theorem toPys_ints' (ns : List Int) : toPys (ns.map D.int) = ns.map PySem.PyData.int := by
  induction ns with
  | nil => rfl
  | cons n ns ih =>
    show toPy (.int n) :: toPys (ns.map D.int) = _
    rw [ih]; rfl
theorem eqvAll_ints : ∀ xs ys : List Int, PySem.PyData.eqvAll (toPys (xs.map D.int)) (toPys (ys.map D.int)) = decide (xs = ys)
  | [], [] => by simp [toPys, PySem.PyData.eqvAll]
  | [], _ :: _ => by simp [toPys, PySem.PyData.eqvAll]
  | _ :: _, [] => by simp [toPys, PySem.PyData.eqvAll]
  | x :: xs, y :: ys => by
    have ih := eqvAll_ints xs ys
    simp [toPys, toPy, PySem.PyData.eqvAll, PySem.PyData.eqv, ih]
    by_cases h : x = y <;> simp [h]
theorem eqv_intT (xs ys : List Int) : eqv (intT xs) (intT ys) = decide (xs = ys) := by
  unfold eqv intT
  have h := eqvAll_ints xs ys
  simp only [toPy, PySem.PyData.eqv]
  exact h
theorem keyds_ints (n : Nat) : ∀ xs : List Int, keyds n (xs.map D.int) = true
  | [] => by simp [keyds]
  | x :: xs => by
    have ih := keyds_ints n xs
    cases n <;> simp [keyds, keyd, ih]
theorem keyT_intT (xs : List Int) : keyT (intT xs) = true := keyds_ints 5 xs
/-- a dict's keys, all with one value -/
def setK (nss : List (List Int)) (v : D) : List (D × D) := nss.map fun ns => (intT ns, v)
def insK (nss : List (List Int)) (ns : List Int) : List (List Int) := if ns ∈ nss then nss else nss ++ [ns]
theorem setK_any (nss : List (List Int)) (v : D) (ns : List Int) : ((setK nss v).any fun p => eqv p.1 (intT ns)) = decide (ns ∈ nss) := by
  unfold setK
  induction nss with
  | nil => rfl
  | cons x nss ih =>
    rw [List.map_cons, List.any_cons, ih, eqv_intT]
    by_cases h : x = ns
    · simp [h]
    · have h' : ¬ ns = x := fun e => h e.symm
      simp [h, h']
theorem put_setK (nss : List (List Int)) (ns : List Int) (v : D) : put (setK nss v) (intT ns) v = setK (insK nss ns) v := by
  unfold put insK
  rw [setK_any]
  by_cases h : ns ∈ nss
  · simp only [h, decide_true, if_true]
    unfold setK
    rw [List.map_map]
    apply List.map_congr_left
    intro x _
    simp only [Function.comp]
    split <;> rfl
  · simp only [h, decide_false, Bool.false_eq_true, if_false]
    unfold setK
    rw [List.map_append]; rfl
theorem insK_mem {nss : List (List Int)} {ns x : List Int} : x ∈ insK nss ns ↔ x ∈ nss ∨ x = ns := by
  unfold insK
  split
  · rename_i h
    constructor
    · exact .inl
    · rintro (h1 | rfl)
      · exact h1
      · exact h
  · simp
theorem insK_nd {nss : List (List Int)} {ns : List Int} (h : nss.Nodup) : (insK nss ns).Nodup := by
  unfold insK
  split
  · exact h
  · rename_i hn
    refine List.nodup_append.mpr ⟨h, by simp, fun a ha b hb e => ?_⟩
    simp at hb
    subst hb; subst e
    exact hn ha
theorem insK_len {nss : List (List Int)} {ns : List Int} : (insK nss ns).length ≤ nss.length + 1 := by
  unfold insK
  split <;> simp
theorem sortT_mem {xs : List (List Int)} {x : List Int} : x ∈ sortT xs ↔ x ∈ xs := (isort_perm _ xs).mem_iff
theorem sortI_mem {xs : List Int} {x : Int} : x ∈ sortI xs ↔ x ∈ xs := (isort_perm _ xs).mem_iff
theorem sortT_lt {xs : List (List Int)} (h : xs.Nodup) : (sortT xs).Pairwise (fun a b => decide (a < b) = true) := by
  have nd : (sortT xs).Nodup := (isort_perm _ xs).nodup_iff.mpr h
  have pw : (sortT xs).Pairwise (fun a b => decide (a ≤ b) = true) := isort_pw (fun a b c h1 h2 => by simp only [decide_eq_true_eq] at *; exact List.le_trans h1 h2) (fun a b => by simp only [Bool.or_eq_true, decide_eq_true_eq]; exact List.le_total a b) xs
  refine (pw.and nd).imp fun {a b} h => ?_
  simp only [decide_eq_true_eq] at h ⊢
  obtain ⟨h1, h2⟩ := h
  refine Classical.byContradiction fun h3 => h2 (List.le_antisymm h1 (List.not_lt.mp h3))
theorem dedupI_len (ns : List Int) : (dedupI ns).length ≤ ns.length := by
  unfold dedupI
  induction ns with
  | nil => simp
  | cons n ns ih =>
    have : ∀ (n : Int) (l : List Int), (insI n l).length ≤ l.length + 1 := fun n l => by
      induction l with
      | nil => simp [insI]
      | cons x r ih =>
        unfold insI
        split
        · simp
        · split
          · simp
          · simp only [List.length_cons]; omega
    rw [List.foldr_cons]
    have := this n (List.foldr insI [] ns)
    simp only [List.length_cons]; omega
theorem insI_mem' (n k : Int) : ∀ l : List Int, k ∈ insI n l ↔ k = n ∨ k ∈ l
  | [] => by simp [insI]
  | x :: r => by
    unfold insI
    split
    · simp
    · split
      · rename_i h; subst h; simp
      · simp only [List.mem_cons, insI_mem' n k r]
        constructor <;> rintro (h | h | h) <;> simp [h]
theorem insI_pw' (n : Int) : ∀ l : List Int, l.Pairwise (· < ·) → (insI n l).Pairwise (· < ·)
  | [], _ => by simp [insI]
  | x :: r, h => by
    obtain ⟨h1, h2⟩ := List.pairwise_cons.mp h
    unfold insI
    split
    · rename_i e
      refine List.pairwise_cons.mpr ⟨fun z hz => ?_, h⟩
      rcases List.mem_cons.mp hz with rfl | hz
      · exact e
      · have := h1 z hz; omega
    · split
      · exact h
      · refine List.pairwise_cons.mpr ⟨fun z hz => ?_, insI_pw' n r h2⟩
        rcases (insI_mem' n z r).mp hz with rfl | hz
        · omega
        · exact h1 z hz
theorem dedupI_pw (ns : List Int) : (dedupI ns).Pairwise (· < ·) := by
  unfold dedupI
  induction ns with
  | nil => exact .nil
  | cons n ns ih => exact insI_pw' n _ ih
theorem dedupI_mem (ns : List Int) (k : Int) : k ∈ dedupI ns ↔ k ∈ ns := by
  unfold dedupI
  induction ns with
  | nil => simp
  | cons n ns ih => rw [List.foldr_cons, insI_mem', ih]; simp
end Ev

/-! P0: rules that step through a term, each for one form. -/
namespace Ev
section
variable {C : Cl} {env : Env} {se : SEnv} {i j k : Nat} {a b c e t : E} {es lo hi : EL} {o p : BO} {q r : CO} {ds xs ys : List D} {x y d : D} {m n : Int} {u v : Bool} {os fg : List Nat} {ss sa sb : SL} {s : S} {it : IT} {tg : TG} {ns ms : List Int}
@[simp] theorem x_var : eval C (.var i) env = getV env i := rfl
@[simp] theorem x_glb : eval C (.glb i) env = orBad (C.glob i) := rfl
@[simp] theorem x_cst : eval C (.cst d) env = .ok d := rfl
@[simp] theorem x_bin : eval C (.bin o a b) env = (eval C a env).bind fun x => (eval C b env).bind fun y => binop o x y := rfl
@[simp] theorem x_cmp : eval C (.cmp q a b) env = (eval C a env).bind fun x => (eval C b env).bind fun y => cmpop q x y := rfl
@[simp] theorem x_chn : eval C (.chn q r a b c) env = (eval C a env).bind fun x => (eval C b env).bind fun y => (cmpop q x y).bind fun w => (truth w).bind fun k => if k then (eval C c env).bind fun z => cmpop r y z else .ok w := rfl
@[simp] theorem x_bop : eval C (.bop u es) env = evalB C u es env := rfl
@[simp] theorem x_b1 : evalB C u (.cons e .nil) env = eval C e env := rfl
@[simp] theorem x_b2 : evalB C u (.cons e (.cons a es)) env = (eval C e env).bind fun d => (truth d).bind fun t => if t == u then evalB C u (.cons a es) env else .ok d := rfl
@[simp] theorem x_nt : eval C (.nt a) env = (eval C a env).bind fun x => (truth x).bind fun k => .ok (.bl (!k)) := rfl
@[simp] theorem x_neg : eval C (.neg a) env = (eval C a env).bind negD := rfl
@[simp] theorem x_ife : eval C (.ife t a b) env = (eval C t env).bind fun x => (truth x).bind fun k => if k then eval C a env else eval C b env := rfl
@[simp] theorem x_call : eval C (.call i es) env = (evalL C es env).bind fun ds => C.call i ds := rfl
@[simp] theorem x_blt {f : BF} : eval C (.blt f es) env = (evalL C es env).bind fun ds => blt f ds := rfl
@[simp] theorem x_isi {f : TN} : eval C (.isi a f) env = (eval C a env).bind fun x => (isT f x).bind fun k => .ok (.bl k) := rfl
@[simp] theorem x_isis : eval C (.isis a) env = (eval C a env).bind fun x => (isT .int x).bind fun k => (isT .str x).bind fun j => .ok (.bl (k || j)) := rfl
@[simp] theorem x_mth {f : MF} : eval C (.mth f a es) env = (eval C a env).bind fun x => chk (recv f x) ((evalL C es env).bind fun ds => meth f x ds) := rfl
@[simp] theorem x_sub : eval C (.sub a b) env = (eval C a env).bind fun x => (eval C b env).bind fun y => subD x y := rfl
@[simp] theorem x_slc : eval C (.slc a lo hi) env = (eval C a env).bind fun x => ((evalL C lo env).bind optI).bind fun l' => ((evalL C hi env).bind optI).bind fun h' => slcD l' h' x := rfl
@[simp] theorem x_tup : eval C (.tup es) env = (evalL C es env).bind fun ds => .ok (.tup ds) := rfl
@[simp] theorem x_lst : eval C (.lst es) env = (evalL C es env).bind fun ds => .ok (.lst ds) := rfl
@[simp] theorem x_dct : eval C (.dct .nil .nil) env = .ok (.dic []) := rfl
@[simp] theorem x_l0 : evalL C .nil env = .ok [] := rfl
@[simp] theorem x_l1 : evalL C (.cons e es) env = (eval C e env).bind fun d => (evalL C es env).bind fun ds => .ok (d :: ds) := rfl
@[simp] theorem x_t0 : evalT C .nil env = .ok true := rfl
@[simp] theorem x_t1 : evalT C (.cons e .nil) env = (eval C e env).bind truth := rfl
@[simp] theorem x_cmpr : eval C (.cmpr e tg it es) env = (evalI C it env).bind fun ds => (compL (fun d => ((setT tg d env).bind fun env' => (evalT C es env').bind fun k => if k then (eval C e env').bind fun x => .ok (some x) else .ok none).noexc) ds).bind fun r => .ok (.lst r) := rfl
@[simp] theorem x_it : evalI C (.it a) env = (eval C a env).bind elems := rfl
@[simp] theorem x_r1 : evalI C (.r1 a) env = (eval C a env).bind fun x => match x with
    | .int n => chk (okR n) (.ok (rangeD 0 n.toNat))
    | _ => .bad := rfl
@[simp] theorem x_r2 : evalI C (.r2 a b) env = (eval C a env).bind fun x => (eval C b env).bind fun y => match x, y with
    | .int i, .int j => chk (okR i && okR j && decide (j - i ≤ 16777216)) (.ok (rangeD i (j - i).toNat))
    | _, _ => .bad := rfl
@[simp] theorem x_enu : evalI C (.enu a) env = (eval C a env).bind fun x => (sqs x).bind fun ds => .ok (enumL ds) := rfl
@[simp] theorem x_zip : evalI C (.zip a b) env = (eval C a env).bind fun x => (eval C b env).bind fun y => match x, y with
    | .tup xs, .tup ys => .ok (zipL xs ys)
    | .lst xs, .lst ys => .ok (zipL xs ys)
    | _, _ => .bad := rfl
@[simp] theorem x_get0 : getV (some d :: env) 0 = .ok d := rfl
@[simp] theorem x_get1 {z : Option D} : getV (z :: env) (i + 1) = getV env i := rfl
-- data
@[simp] theorem t_bl : truth (.bl u) = .ok u := rfl
@[simp] theorem t_int : truth (.int n) = .ok (n != 0) := rfl
@[simp] theorem t_non : truth .non = .ok false := rfl
@[simp] theorem t_tup : truth (.tup ds) = .ok (!ds.isEmpty) := rfl
@[simp] theorem t_lst : truth (.lst ds) = .ok (!ds.isEmpty) := rfl
@[simp] theorem o_add : binop .add (.int m) (.int n) = .ok (.int (m + n)) := rfl
@[simp] theorem o_sub : binop .sub (.int m) (.int n) = .ok (.int (m - n)) := rfl
@[simp] theorem o_mul : binop .mul (.int m) (.int n) = chk (small m || small n) (.ok (.int (m * n))) := rfl
@[simp] theorem o_mod : binop .mod (.int m) (.int n) = chk (decide (0 < n)) (.ok (.int (m % n))) := rfl
@[simp] theorem o_fdv : binop .fdv (.int m) (.int n) = chk (decide (0 < n) && decide (n < 1073741824)) (.ok (.int (m / n))) := rfl
@[simp] theorem o_addT : binop .add (.tup xs) (.tup ys) = chk (decide (xs.length + ys.length ≤ LIM)) (.ok (.tup (xs ++ ys))) := rfl
@[simp] theorem o_addL : binop .add (.lst xs) (.lst ys) = chk (decide (xs.length + ys.length ≤ LIM)) (.ok (.lst (xs ++ ys))) := rfl
@[simp] theorem q_lt : cmpop .lt (.int m) (.int n) = .ok (.bl (decide (m < n))) := rfl
@[simp] theorem q_le : cmpop .le (.int m) (.int n) = .ok (.bl (decide (m ≤ n))) := rfl
@[simp] theorem q_gt : cmpop .gt (.int m) (.int n) = .ok (.bl (decide (n < m))) := rfl
@[simp] theorem q_ge : cmpop .ge (.int m) (.int n) = .ok (.bl (decide (n ≤ m))) := rfl
@[simp] theorem q_eqI : cmpop .eq (.int m) (.int n) = .ok (.bl (decide (m = n))) := by
  show R.ok (D.bl (eqv (.int m) (.int n))) = _
  congr 2
@[simp] theorem q_neI : cmpop .ne (.int m) (.int n) = .ok (.bl (!decide (m = n))) := by
  show R.ok (D.bl (!eqv (.int m) (.int n))) = _
  congr 3
@[simp] theorem q_isN : cmpop .is x .non = .ok (.bl (isNon x)) := by cases x <;> rfl
@[simp] theorem q_nisN : cmpop .nis x .non = .ok (.bl (!isNon x)) := by cases x <;> rfl
@[simp] theorem q_isB : cmpop .is (.bl u) (.bl v) = .ok (.bl (decide (u = v))) := rfl
@[simp] theorem q_nisB : cmpop .nis (.bl u) (.bl v) = .ok (.bl (!decide (u = v))) := rfl
@[simp] theorem k_cons {f : D → R (Option D)} : compL f (d :: ds) = (f d).bind fun o => (compL f ds).bind fun r => .ok (o.toList ++ r) := rfl
@[simp] theorem k_nil {f : D → R (Option D)} : compL f [] = .ok [] := rfl
@[simp] theorem b_lenT : blt .len [.tup xs] = .ok (.int xs.length) := rfl
@[simp] theorem b_lenL : blt .len [.lst xs] = .ok (.int xs.length) := rfl
@[simp] theorem b_lenS : blt .len [.scr ns] = .ok (.int ns.length) := rfl
@[simp] theorem b_srtL : blt .srt [.lst xs] = sortD xs := rfl
@[simp] theorem b_srtT : blt .srt [.tup xs] = sortD xs := rfl
@[simp] theorem b_srtD {kvs : List (D × D)} : blt .srt [.dic kvs] = sortD (kvs.map (·.1)) := rfl
@[simp] theorem b_allM {α : Type} {p : α → Bool} {l : List α} : blt .all [.lst (l.map fun x => .bl (p x))] = .ok (.bl (l.all p)) := by
  show (match bls? (l.map fun x => D.bl (p x)) with
    | some bs => R.ok (D.bl (bs.all id))
    | none => R.bad) = _
  rw [bls?_of]
  simp [List.all_map, Function.comp_def]
@[simp] theorem b_anyM {α : Type} {p : α → Bool} {l : List α} : blt .any [.lst (l.map fun x => .bl (p x))] = .ok (.bl (l.any p)) := by
  show (match bls? (l.map fun x => D.bl (p x)) with
    | some bs => R.ok (D.bl (bs.any id))
    | none => R.bad) = _
  rw [bls?_of]
  simp [List.any_map, Function.comp_def]
@[simp] theorem b_all0 : blt .all [.lst []] = .ok (.bl true) := rfl
@[simp] theorem b_all1 : blt .all [.lst [.bl u]] = .ok (.bl u) := by cases u <;> rfl
@[simp] theorem b_all2 : blt .all [.lst [.bl u, .bl v]] = .ok (.bl (u && v)) := by cases u <;> cases v <;> rfl
@[simp] theorem b_all3 {w : Bool} : blt .all [.lst [.bl u, .bl v, .bl w]] = .ok (.bl (u && (v && w))) := by cases u <;> cases v <;> cases w <;> rfl
@[simp] theorem b_intB : blt .int [.bl u] = .ok (.int (if u then 1 else 0)) := rfl
@[simp] theorem b_intI : blt .int [.int n] = .ok (.int n) := rfl
@[simp] theorem b_lisL : blt .lis [.lst xs] = .ok (.lst xs) := rfl
@[simp] theorem b_lisT : blt .lis [.tup xs] = .ok (.lst xs) := rfl
@[simp] theorem b_tupL : blt .tup [.lst xs] = .ok (.tup xs) := rfl
@[simp] theorem b_tupT : blt .tup [.tup xs] = .ok (.tup xs) := rfl
@[simp] theorem b_mx2 : blt .mx2 [.int m, .int n] = .ok (.int (if n > m then n else m)) := rfl
@[simp] theorem b_mn2 : blt .mn2 [.int m, .int n] = .ok (.int (if n < m then n else m)) := rfl
@[simp] theorem b_sstM : blt .sst [.lst (ns.map .int)] = chk (decide (ns.length ≤ 50)) (.ok (.lst ((dedupI ns).map .int))) := by
  show (match ints? (ns.map D.int) with
    | some ns => chk (decide (ns.length ≤ 50)) (R.ok (D.lst ((dedupI ns).map .int)))
    | none => R.bad) = _
  rw [ints?_of]
@[simp] theorem b_lrg : blt .lrg [.int n] = chk (okR n) (.ok (.lst (rangeD 0 n.toNat))) := rfl
@[simp] theorem b_trg : blt .trg [.int n] = chk (okR n) (.ok (.tup (rangeD 0 n.toNat))) := rfl
@[simp] theorem l_tup : elems (.tup ds) = .ok ds := rfl
@[simp] theorem l_lst : elems (.lst ds) = .ok ds := rfl
@[simp] theorem m_tup : sqs (.tup ds) = .ok ds := rfl
@[simp] theorem m_lst : sqs (.lst ds) = .ok ds := rfl
@[simp] theorem n_lst : lsts (.lst ds) = .ok ds := rfl
-- statements
@[simp] theorem s_asg0 : exec C (.asg i e os) se = (eval C e (vals (demote os se))).bind fun d => .ok (.nx ((prep os d se).set i (.val d))) := rfl
@[simp] theorem s_asgO0 : exec C (.asgO i e os) se = (eval C e (vals (demote os se))).bind fun d => match d with
    | .lst ds => .ok (.nx ((prepL os ds se).set i (.own d)))
    | .dic [] => .ok (.nx (se.set i (.own d)))
    | _ => .bad := rfl
@[simp] theorem s_asgF0 : exec C (.asgF i e os) se = (eval C e (vals (demote os se))).bind fun d => match d with
    | .lst ds => .ok (.nx ((prepL os ds se).set i (.val d)))
    | _ => .bad := rfl
@[simp] theorem z_cnt : recv .count (.lst xs) = true := rfl
@[simp] theorem s_ret0 : exec C (.ret e) se = (eval C e (datas se)).bind fun d => .ok (.rt d) := rfl
@[simp] theorem s_iff0 : exec C (.iff t sa sb) se = (eval C t (datas se)).bind fun x => (truth x).bind fun k => if k then execL C sa se else execL C sb se := rfl
@[simp] theorem s_app0 : exec C (.app i e os) se = ownL se i fun ds => (eval C e (vals (demote os se))).bind fun d => chk (!(os.any (ownAt se)) || noList d) (chk (decide (ds.length < LIM)) (.ok (.nx (se.set i (.own (.lst (ds ++ [d]))))))) := rfl
@[simp] theorem s_ext0 : exec C (.ext i e os) se = ownL se i fun ds => (eval C e (vals (demote os se))).bind fun d => (sqs d).bind fun es => chk (!(os.any (ownAt se)) || noLists es) (chk (decide (ds.length + es.length ≤ LIM)) (.ok (.nx (se.set i (.own (.lst (ds ++ es))))))) := rfl
@[simp] theorem s_setI0 : exec C (.setI i a e os) se = chk (ownAt se i) ((eval C e (vals (demote os se))).bind fun d => (eval C a (vals (demote os se))).bind fun k => chk (!(os.any (ownAt se)) || (noList d && noList k)) (putI se i k d)) := rfl
@[simp] theorem s_asgT0 : exec C (.asgT fg e os) se = (eval C e (vals (demote os se))).bind fun d => (setTS (.tup fg) d (prep os d se)).bind fun env' => .ok (.nx env') := rfl
@[simp] theorem s_for0 : exec C (.for_ tg it ss fg os) se = (evalI C it (vals (demote os se))).bind fun ds => forL (execL C ss) tg fg ds (forget fg (if isRng it then se else demote os se)) := rfl
@[simp] theorem s_n : execL C .nil se = .ok (.nx se) := rfl
@[simp] theorem s_c : execL C (.cons s ss) se = (exec C s se).bind fun fl => match fl with
    | .nx env' => execL C ss env'
    | fl => .ok fl := rfl
end
section
variable {env : SEnv} {s : Slot} {d : D} {i : Nat} {is os fg : List Nat} {ds : List D} {b : Bool} {n : Int} {z : PySem.Str} {ns : List Int} {kvs : List (D × D)} {ev : Env} {a c : E}
@[simp] theorem v_d0 : datas [] = [] := rfl
@[simp] theorem v_d1 : datas (s :: env) = s.data :: datas env := rfl
@[simp] theorem v_v0 : vals [] = [] := rfl
@[simp] theorem v_v1 : vals (s :: env) = s.plain :: vals env := rfl
@[simp] theorem v_data_emp : Slot.data .emp = none := rfl
@[simp] theorem v_data_val : Slot.data (.val d) = some d := rfl
@[simp] theorem v_data_own : Slot.data (.own d) = some d := rfl
@[simp] theorem v_plain_emp : Slot.plain .emp = none := rfl
@[simp] theorem v_plain_val : Slot.plain (.val d) = some d := rfl
@[simp] theorem v_plain_own : Slot.plain (.own d) = none := rfl
@[simp] theorem v_isOwn_emp : Slot.isOwn .emp = false := rfl
@[simp] theorem v_isOwn_val : Slot.isOwn (.val d) = false := rfl
@[simp] theorem v_isOwn_own : Slot.isOwn (.own d) = true := rfl
@[simp] theorem v_demote_emp : Slot.demote .emp = .emp := rfl
@[simp] theorem v_demote_val : Slot.demote (.val d) = .val d := rfl
@[simp] theorem v_demote_own : Slot.demote (.own d) = .val d := rfl
@[simp] theorem v_dem0 : demote [] env = env := rfl
@[simp] theorem v_dem1 : demote (i :: is) env = demote is (match env[i]? with
    | some s => env.set i s.demote
    | none => env) := rfl
@[simp] theorem v_fg0 : forget [] env = env := rfl
@[simp] theorem v_fg1 : forget (i :: is) env = forget is (env.set i .emp) := rfl
@[simp] theorem v_o1 : outR (.rt d) = .ok d := rfl
@[simp] theorem v_o2 : outR (.nx env) = .ok .non := rfl
@[simp] theorem v_t1 : setT (.one i) d ev = .ok (ev.set i (some d)) := rfl
@[simp] theorem v_t2 : setT (.tup is) (.tup ds) ev = chk (decide (ds.length = is.length)) (.ok (setAll is ds ev)) := rfl
@[simp] theorem v_a0 : setAll [] ds ev = ev := rfl
@[simp] theorem v_a1 : setAll (i :: is) (d :: ds) ev = setAll is ds (ev.set i (some d)) := rfl
@[simp] theorem v_s1 : setTS (.one i) d env = .ok (env.set i (.val d)) := rfl
@[simp] theorem v_s2 : setTS (.tup is) (.tup ds) env = chk (decide (ds.length = is.length)) (.ok (setTS.go is ds env)) := rfl
@[simp] theorem v_g0 : setTS.go [] ds env = env := rfl
@[simp] theorem v_g1 : setTS.go (i :: is) (d :: ds) env = setTS.go is ds (env.set i (.val d)) := rfl
@[simp] theorem v_r0 : isRng (.it a) = false := rfl
@[simp] theorem v_r1 : isRng (.r1 a) = true := rfl
@[simp] theorem v_r2 : isRng (.r2 a c) = true := rfl
@[simp] theorem v_r3 : isRng (.enu a) = false := rfl
@[simp] theorem v_r4 : isRng (.zip a c) = false := rfl
@[simp] theorem v_p : prep os d env = if (os.any (ownAt env)) && !noList d then demote os env else env := rfl
@[simp] theorem v_pl : prepL os ds env = if (os.any (ownAt env)) && !noLists ds then demote os env else env := rfl
@[simp] theorem v_ow : ownAt env i = match env[i]? with
    | some s => s.isOwn
    | none => false := rfl
@[simp] theorem i_int_non : isT .int .non = .ok false := rfl
@[simp] theorem i_int_bl : isT .int (.bl b) = .ok true := rfl
@[simp] theorem i_int_int : isT .int (.int n) = .ok true := rfl
@[simp] theorem i_int_str : isT .int (.str z) = .ok false := rfl
@[simp] theorem i_int_tup : isT .int (.tup ds) = .ok false := rfl
@[simp] theorem i_int_lst : isT .int (.lst ds) = .ok false := rfl
@[simp] theorem i_bool_non : isT .bool .non = .ok false := rfl
@[simp] theorem i_bool_bl : isT .bool (.bl b) = .ok true := rfl
@[simp] theorem i_bool_int : isT .bool (.int n) = .ok false := rfl
@[simp] theorem i_bool_str : isT .bool (.str z) = .ok false := rfl
@[simp] theorem i_bool_tup : isT .bool (.tup ds) = .ok false := rfl
@[simp] theorem i_bool_lst : isT .bool (.lst ds) = .ok false := rfl
@[simp] theorem i_tup_non : isT .tup .non = .ok false := rfl
@[simp] theorem i_tup_bl : isT .tup (.bl b) = .ok false := rfl
@[simp] theorem i_tup_int : isT .tup (.int n) = .ok false := rfl
@[simp] theorem i_tup_str : isT .tup (.str z) = .ok false := rfl
@[simp] theorem i_tup_tup : isT .tup (.tup ds) = .ok true := rfl
@[simp] theorem i_tup_lst : isT .tup (.lst ds) = .ok false := rfl
@[simp] theorem i_str_non : isT .str .non = .ok false := rfl
@[simp] theorem i_str_bl : isT .str (.bl b) = .ok false := rfl
@[simp] theorem i_str_int : isT .str (.int n) = .ok false := rfl
@[simp] theorem i_str_str : isT .str (.str z) = .ok true := rfl
@[simp] theorem i_str_tup : isT .str (.tup ds) = .ok false := rfl
@[simp] theorem i_str_lst : isT .str (.lst ds) = .ok false := rfl
@[simp] theorem i_lis_non : isT .lis .non = .ok false := rfl
@[simp] theorem i_lis_bl : isT .lis (.bl b) = .ok false := rfl
@[simp] theorem i_lis_int : isT .lis (.int n) = .ok false := rfl
@[simp] theorem i_lis_str : isT .lis (.str z) = .ok false := rfl
@[simp] theorem i_lis_tup : isT .lis (.tup ds) = .ok false := rfl
@[simp] theorem i_lis_lst : isT .lis (.lst ds) = .ok true := rfl
end
end Ev

/-! P2: plain: boards, men, steps, moves. -/
namespace Ev
def ltB (a b : Int) : Bool := decide (a < b)
def ltT (a b : List Int) : Bool := decide (a < b)
/-- a part of a tie list, of a row list -/
structure El (s : Nat) (m : Int) (t : List Int) : Prop where
  len : t.length = s
  rng : ∀ p ∈ t, 0 ≤ p ∧ p ≤ m - 1
  up : ris ltB t = true
structure Good (s : Nat) (m : Int) (ts : List (List Int)) : Prop where
  el : ∀ t ∈ ts, El s m t
  up : ris ltT ts = true
  few : ts.length ≤ 1000
def tupsD (ts : List (List Int)) : D := .tup (ts.map intT)
def boardD (m : Int) (ts rs : List (List Int)) : D := .tup [.int m, tupsD ts, tupsD rs]
theorem good0 (s : Nat) (m : Int) : Good s m [] := ⟨fun _ h => by simp at h, rfl, by simp⟩
abbrev mixI (c p m : Int) : Int := c * 48271 % p % m
theorem mix_rng (c p m : Int) (hm : 0 < m) : 0 ≤ mixI c p m ∧ mixI c p m ≤ m - 1 := by
  have h1 := Int.emod_nonneg (c * 48271 % p) (show m ≠ 0 by omega)
  have h2 := Int.emod_lt_of_pos (c * 48271 % p) hm
  exact ⟨h1, by unfold mixI; omega⟩
theorem setK_len (nss : List (List Int)) (v : D) : (setK nss v).length = nss.length := by unfold setK; simp
theorem range_int {N : Nat} {d : D} (h : d ∈ rangeD 0 N) : ∃ k, d = .int k := by
  unfold rangeD at h
  obtain ⟨i, _, rfl⟩ := List.mem_map.mp h
  exact ⟨_, rfl⟩
def t0 : List (List Int) := [[0, 1], [0, 3], [1, 2], [1, 4], [2, 5], [3, 4], [3, 6], [4, 5], [4, 7], [5, 8], [6, 7], [7, 8]]
def r0 : List (List Int) := [[0, 1, 2], [0, 3, 6], [1, 4, 7], [2, 5, 8], [3, 4, 5], [6, 7, 8]]
def t1 : List (List Int) := [[0, 1], [0, 7], [1, 2], [2, 3], [3, 4], [4, 5], [5, 6], [6, 7]]
def r1 : List (List Int) := [[0, 1, 2], [0, 6, 7], [2, 3, 4], [4, 5, 6]]
def t2 : List (List Int) := [[0, 1], [0, 7], [1, 2], [1, 9], [2, 3], [3, 4], [3, 11], [4, 5], [5, 6], [5, 13], [6, 7], [7, 15], [8, 9], [8, 15], [9, 10], [10, 11], [11, 12], [12, 13], [13, 14], [14, 15]]
def r2 : List (List Int) := [[0, 1, 2], [0, 6, 7], [2, 3, 4], [4, 5, 6], [8, 9, 10], [8, 14, 15], [10, 11, 12], [12, 13, 14]]
def t3 : List (List Int) := [[0, 1], [0, 7], [1, 2], [1, 9], [2, 3], [3, 4], [3, 11], [4, 5], [5, 6], [5, 13], [6, 7], [7, 15], [8, 9], [8, 15], [9, 10], [9, 17], [10, 11], [11, 12], [11, 19], [12, 13], [13, 14], [13, 21], [14, 15], [15, 23], [16, 17], [16, 23], [17, 18], [18, 19], [19, 20], [20, 21], [21, 22], [22, 23]]
def r3 : List (List Int) := [[0, 1, 2], [0, 6, 7], [1, 9, 17], [2, 3, 4], [3, 11, 19], [4, 5, 6], [5, 13, 21], [7, 15, 23], [8, 9, 10], [8, 14, 15], [10, 11, 12], [12, 13, 14], [16, 17, 18], [16, 22, 23], [18, 19, 20], [20, 21, 22]]
def goodB (s : Nat) (m : Int) (ts : List (List Int)) : Bool := ts.all (fun t => decide (t.length = s) && t.all (fun p => decide (0 ≤ p) && decide (p ≤ m - 1)) && ris ltB t) && ris ltT ts && decide (ts.length ≤ 1000)
theorem good_of {s : Nat} {m : Int} {ts : List (List Int)} (h : goodB s m ts = true) : Good s m ts := by
  unfold goodB at h
  simp only [Bool.and_eq_true, List.all_eq_true, decide_eq_true_eq] at h
  obtain ⟨⟨h1, h2⟩, h3⟩ := h
  exact ⟨fun t ht => ⟨(h1 t ht).1.1, fun p hp => (h1 t ht).1.2 p hp, (h1 t ht).2⟩, h2, h3⟩
theorem gg : goodB 2 9 t0 = true ∧ goodB 3 9 r0 = true ∧ goodB 2 8 t1 = true ∧ goodB 3 8 r1 = true ∧ goodB 2 16 t2 = true ∧ goodB 3 16 r2 = true ∧ goodB 2 24 t3 = true ∧ goodB 3 24 r3 = true := by decide +kernel
def whoI (b : Bool) : Int := if b then 1 else 0
def manD : Option Bool → D
  | none => .non
  | some b => .int (whoI b)
def mensD (ms : List (Option Bool)) : List D := ms.map manD
def empt (ms : List (Option Bool)) : List Nat := ms.zipIdx.filterMap fun p => if p.1.isNone then some p.2 else none
def emptI (ms : List (Option Bool)) : List Int := (empt ms).map fun i : Nat => (i : Int)
theorem flats_ints (n : Nat) : ∀ xs : List Int, flats n (xs.map D.int) = true
  | [] => by simp [flats]
  | x :: xs => by simp [flats, flat, flats_ints n xs]
theorem noLists_ints (xs : List Int) : noLists (xs.map D.int) = true := flats_ints 60 xs
theorem flats_men (n : Nat) : ∀ ms : List (Option Bool), flats n (mensD ms) = true
  | [] => by simp [mensD, flats]
  | m :: ms => by
    have ih := flats_men n ms
    unfold mensD at ih ⊢
    cases m <;> simp [flats, flat, manD, ih]
theorem shaps_men (n : Nat) : ∀ ms : List (Option Bool), shaps n (mensD ms) = true
  | [] => by simp [mensD, shaps]
  | m :: ms => by
    have ih := shaps_men n ms
    unfold mensD at ih ⊢
    cases m <;> simp [shaps, shap, manD, ih]
theorem empt_lt {ms : List (Option Bool)} {i : Nat} (h : i ∈ empt ms) : i < ms.length := by
  unfold empt at h
  obtain ⟨p, hp, e⟩ := List.mem_filterMap.mp h
  have := List.mem_zipIdx hp
  split at e
  · cases e; omega
  · cases e
theorem enum_men (ms : List (Option Bool)) : enumL (mensD ms) = ms.zipIdx.map fun p => .tup [.int (p.2 : Nat), manD p.1] := by
  unfold enumL mensD
  apply List.ext_getElem?
  intro i
  simp only [List.getElem?_mapIdx, List.getElem?_map, List.getElem?_zipIdx, Option.map_map]
  cases ms[i]? <;> simp
theorem isNon_man (m : Option Bool) : isNon (manD m) = m.isNone := by cases m <;> rfl
theorem mens_len (ms : List (Option Bool)) : (mensD ms).length = ms.length := by unfold mensD; simp
theorem mens_set (ms : List (Option Bool)) (i : Nat) (m : Option Bool) : (mensD ms).set i (manD m) = mensD (ms.set i m) := by unfold mensD; rw [List.map_set]
theorem ixN_nat {n i : Nat} (h : i < n) : ixN n (i : Int) = some i := by
  unfold ixN
  have h1 : (0 : Int) ≤ i := by omega
  have h2 : (i : Int) < n := by omega
  simp [h1, h2]
/-- a stand of a board with m points -/
structure Stand (m : Int) (s : D) (ms : List (Option Bool)) (a b t : Int) : Prop where
  eq : s = .tup [.tup (mensD ms), .tup [.int a, .int b], .int t]
  len : (ms.length : Int) = m
  la : 0 ≤ a ∧ a ≤ 3
  lb : 0 ≤ b ∧ b ≤ 3
  tn : 0 ≤ t ∧ t ≤ 1
/-- the row is full of b -/
def fullR (ms : List (Option Bool)) (b : Bool) (r : List Int) : Bool := r.all fun p => decide (ms.getD p.toNat none = some b)
theorem man_eq (o : Option Bool) (b : Bool) : cmpop .eq (manD o) (.int (whoI b)) = .ok (.bl (decide (o = some b))) := by
  cases o with
  | none => rfl
  | some a => cases a <;> cases b <;> rfl
theorem man_at {ms : List (Option Bool)} {p m : Int} (hl : (ms.length : Int) = m) (h : 0 ≤ p ∧ p ≤ m - 1) : subD (.tup (mensD ms)) (.int p) = .ok (manD (ms.getD p.toNat none)) := by
  obtain ⟨k, rfl⟩ : ∃ k : Nat, p = k := ⟨p.toNat, by omega⟩
  have hk : k < (mensD ms).length := by rw [mens_len]; omega
  show orBad (atI (mensD ms) k) = _
  rw [atI_nat hk]
  have hk2 : k < ms.length := by omega
  simp [orBad, mensD, hk2]
/-- a for without a return, its slots told by what went ahead -/
def stepR (fg : List Nat) (r : R Fl) : R SEnv := r.bind fun fl => match fl with
  | .nx e => .ok (forget fg e)
  | .ct e => .ok (forget fg e)
  | .rt _ => .bad
@[simp] theorem stepR_nx {fg : List Nat} {e : SEnv} : stepR fg (.ok (.nx e)) = .ok (forget fg e) := rfl
@[simp] theorem stepR_ct {fg : List Nat} {e : SEnv} : stepR fg (.ok (.ct e)) = .ok (forget fg e) := rfl
theorem stepR_ok {fg : List Nat} {r : R Fl} {e : SEnv} (h : stepR fg r = .ok e) : (∃ e', r = .ok (.nx e') ∧ forget fg e' = e) ∨ ∃ e', r = .ok (.ct e') ∧ forget fg e' = e := by
  cases r with
  | ok fl =>
    cases fl with
    | nx e' => exact .inl ⟨e', rfl, by cases h; rfl⟩
    | ct e' => exact .inr ⟨e', rfl, by cases h; rfl⟩
    | rt d => cases h
  | exc c => cases h
  | bad => cases h
theorem bindR_ok {α β : Type} {r : R α} {f : α → R β} {b : β} (h : r.bind f = .ok b) : ∃ a, r = .ok a ∧ f a = .ok b := by
  cases r with
  | ok a => exact ⟨a, rfl, h⟩
  | exc c => cases h
  | bad => cases h
theorem forL_step {body : SEnv → R Fl} {tg : TG} {fg : List Nat} {d : D} {ds : List D} {env env' : SEnv} (h : ((setTS tg d env).bind fun env1 => stepR fg (body env1)) = .ok env') : forL body tg fg (d :: ds) env = forL body tg fg ds env' := by
  obtain ⟨env1, h1, h2⟩ := bindR_ok h
  rw [forL_cons, h1]
  show (body env1).bind _ = _
  rcases stepR_ok h2 with ⟨e, h3, h4⟩ | ⟨e, h3, h4⟩
  · rw [h3, ← h4]; rfl
  · rw [h3, ← h4]; rfl
theorem forL_pre {α : Type} {body : SEnv → R Fl} {tg : TG} {fg : List Nat} (f : α → D) (E : List α → SEnv) : ∀ (xs pre : List α), (∀ pre' x post, pre ++ xs = pre' ++ x :: post → ((setTS tg (f x) (E pre')).bind fun env1 => stepR fg (body env1)) = .ok (E (pre' ++ [x]))) →
    forL body tg fg (xs.map f) (E pre) = .ok (.nx (E (pre ++ xs)))
  | [], pre, _ => by simp [forL]
  | x :: xs, pre, h => by
    have ih := forL_pre f E xs (pre ++ [x]) fun pre' y post e => h pre' y post (by rw [← e]; simp)
    rw [List.map_cons, forL_step (h pre x xs rfl), ih, List.append_assoc]
    rfl
theorem enum_map {α : Type} (f : α → D) (xs : List α) : enumL (xs.map f) = xs.zipIdx.map fun p => .tup [.int (p.2 : Nat), f p.1] := by
  unfold enumL
  apply List.ext_getElem?
  intro i
  simp only [List.getElem?_mapIdx, List.getElem?_map, List.getElem?_zipIdx, Option.map_map]
  cases xs[i]? <;> simp
/-! ### rising lists -/
theorem pw_ris {α : Type} {lt : α → α → Bool} (tr : ∀ a b c, lt a b = true → lt b c = true → lt a c = true) : ∀ {xs : List α}, ris lt xs = true → xs.Pairwise (fun a b => lt a b = true)
  | [], _ => .nil
  | [_], _ => by simp
  | a :: b :: r, h => by
    have h' : (lt a b && ris lt (b :: r)) = true := h
    rw [Bool.and_eq_true] at h'
    have ih := pw_ris tr h'.2
    refine List.pairwise_cons.mpr ⟨fun y hy => ?_, ih⟩
    rcases List.mem_cons.mp hy with rfl | hy
    · exact h'.1
    · exact tr _ _ _ h'.1 ((List.pairwise_cons.mp ih).1 y hy)
theorem Good.nodup {s : Nat} {m : Int} {ts : List (List Int)} (g : Good s m ts) : ts.Nodup := by
  have := pw_ris (lt := ltT) (fun a b c h1 h2 => by simp only [ltT, decide_eq_true_eq] at *; exact List.lt_trans h1 h2) g.up
  refine this.imp fun {a b} h e => ?_
  subst e
  simp only [ltT, decide_eq_true_eq] at h
  exact List.lt_irrefl _ h
theorem El.two {m : Int} {t : List Int} (h : El 2 m t) : ∃ a b, t = [a, b] ∧ 0 ≤ a ∧ a < b ∧ b ≤ m - 1 := by
  match t, h.len with
  | [a, b], _ =>
    have h1 := h.rng a (by simp)
    have h2 := h.rng b (by simp)
    have h3 : a < b := by simpa [ris, ltB] using h.up
    exact ⟨a, b, rfl, h1.1, h3, h2.2⟩
theorem sortT_perm {xs ys : List (List Int)} (h : xs.Perm ys) : sortT xs = sortT ys := by
  rw [sortT_ms, sortT_ms]
  refine List.Perm.eq_of_pairwise (le := fun a b : List Int => decide (a ≤ b) = true) (fun a b _ _ h1 h2 => by simp only [decide_eq_true_eq] at *; exact List.le_antisymm h1 h2) ?_ ?_ ((List.mergeSort_perm _ _).trans (h.trans (List.mergeSort_perm _ _).symm))
  · exact List.pairwise_mergeSort (fun a b c h1 h2 => by simp only [decide_eq_true_eq] at *; exact List.le_trans h1 h2) (fun a b => by simp only [Bool.or_eq_true, decide_eq_true_eq]; exact List.le_total a b) _
  · exact List.pairwise_mergeSort (fun a b c h1 h2 => by simp only [decide_eq_true_eq] at *; exact List.le_trans h1 h2) (fun a b => by simp only [Bool.or_eq_true, decide_eq_true_eq]; exact List.le_total a b) _
/-! ### points by their men -/
def isMan (b : Bool) (o : Option Bool) : Bool := decide (o = some b)
def atM (ms : List (Option Bool)) (p : Int) : Option Bool := ms.getD p.toNat none
def idxs (q : Option Bool → Bool) (ms : List (Option Bool)) : List Int := (List.range ms.length).filterMap fun i => if q (ms.getD i none) then some (i : Int) else none
theorem idxs_mem {q : Option Bool → Bool} {ms : List (Option Bool)} {p : Int} : p ∈ idxs q ms ↔ 0 ≤ p ∧ p < ms.length ∧ q (atM ms p) = true := by
  unfold idxs atM
  simp only [List.mem_filterMap, List.mem_range]
  constructor
  · rintro ⟨i, hi, h⟩
    split at h
    · cases h
      refine ⟨by omega, by omega, ?_⟩
      simpa using ‹_›
    · cases h
  · rintro ⟨h1, h2, h3⟩
    refine ⟨p.toNat, by omega, ?_⟩
    rw [if_pos h3]
    congr 1
    omega
theorem idxs_pw {q : Option Bool → Bool} {ms : List (Option Bool)} : (idxs q ms).Pairwise (· < ·) := by
  unfold idxs
  rw [List.pairwise_filterMap]
  refine List.pairwise_lt_range.imp fun {a b} h x hx y hy => ?_
  split at hx
  · split at hy
    · cases hx; cases hy; omega
    · cases hy
  · cases hx
theorem idxs_nodup {q : Option Bool → Bool} {ms : List (Option Bool)} : (idxs q ms).Nodup := idxs_pw.imp fun h => by omega
theorem idxs_len {q : Option Bool → Bool} {ms : List (Option Bool)} : (idxs q ms).length ≤ ms.length := by
  unfold idxs
  refine Nat.le_trans (List.length_filterMap_le _ _) ?_
  simp
theorem idxs_enum (q : Option Bool → Bool) (ms : List (Option Bool)) : (ms.zipIdx.filterMap fun p => if q p.1 then some (p.2 : Int) else none) = idxs q ms := by
  unfold idxs
  have e : ms.zipIdx = (List.range ms.length).map fun i => (ms.getD i none, i) := by
    apply List.ext_getElem?
    intro i
    rw [List.getElem?_zipIdx, List.getElem?_map]
    by_cases h : i < ms.length
    · rw [List.getElem?_range h, List.getElem?_eq_getElem h]
      simp [List.getD_eq_getElem?_getD, h]
    · rw [List.getElem?_eq_none (by omega), List.getElem?_eq_none (by simpa using h)]
      rfl
  rw [e, List.filterMap_map]
  rfl
theorem idxs_count (q : Option Bool → Bool) (ms : List (Option Bool)) : (idxs q ms).length = ms.countP q := by
  rw [← idxs_enum]
  have : ∀ (ms : List (Option Bool)) (k : Nat), ((ms.zipIdx k).filterMap fun p => if q p.1 then some (p.2 : Int) else none).length = ms.countP q := by
    intro ms
    induction ms with
    | nil => intro k; rfl
    | cons a ms ih =>
      intro k
      rw [List.zipIdx_cons, List.filterMap_cons, List.countP_cons]
      have := ih (k + 1)
      cases q a <;> simp [this]
  exact this ms 0
theorem atM_set {ms : List (Option Bool)} {p q : Int} {o : Option Bool} (hp : 0 ≤ p ∧ p < ms.length) (hq : 0 ≤ q) : atM (ms.set p.toNat o) q = if q = p then o else atM ms q := by
  unfold atM
  rw [List.getD_eq_getElem?_getD, List.getD_eq_getElem?_getD, List.getElem?_set]
  by_cases h : q = p
  · subst h
    have : q.toNat < ms.length := by omega
    simp [this]
  · have : ¬ p.toNat = q.toNat := by omega
    simp [this, h]
/-! ### steps -/
def nbr1 (p : Int) : List Int → List Int
  | [a, b] => (if a = p then [b] else []) ++ (if b = p then [a] else [])
  | _ => []
def nbrs (ts : List (List Int)) (p : Int) : List Int := ts.flatMap (nbr1 p)
def tieOf (p x : Int) : List Int := [if x < p then x else p, if x > p then x else p]
theorem nbr1_mem {m p x : Int} {t : List Int} (h : El 2 m t) : x ∈ nbr1 p t ↔ t = tieOf p x := by
  obtain ⟨a, b, rfl, h1, h2, h3⟩ := h.two
  unfold nbr1 tieOf
  rw [List.mem_append]
  constructor
  · rintro (h | h)
    · split at h
      · simp at h; subst h; subst_vars
        rw [if_neg (by omega), if_pos (by omega)]
      · simp at h
    · split at h
      · simp at h; subst h; subst_vars
        rw [if_pos (by omega), if_neg (by omega)]
      · simp at h
  · intro h
    simp only [List.cons.injEq, and_true] at h
    obtain ⟨e1, e2⟩ := h
    by_cases hx : x < p
    · rw [if_pos hx] at e1
      rw [if_neg (by omega)] at e2
      right; simp [e1, e2]
    · rw [if_neg hx] at e1
      left
      rw [if_pos e1]
      by_cases hp : x > p
      · rw [if_pos hp] at e2; simp [e2]
      · rw [if_neg hp] at e2; omega
theorem nbrs_mem {m p x : Int} {ts : List (List Int)} (g : Good 2 m ts) : x ∈ nbrs ts p ↔ tieOf p x ∈ ts := by
  unfold nbrs
  rw [List.mem_flatMap]
  constructor
  · rintro ⟨t, ht, h⟩
    rw [nbr1_mem (g.el t ht)] at h
    rw [← h]; exact ht
  · intro h
    exact ⟨_, h, (nbr1_mem (g.el _ h)).mpr rfl⟩
theorem nbrs_nodup {m p : Int} {ts : List (List Int)} (g : Good 2 m ts) : (nbrs ts p).Nodup := by
  unfold nbrs
  refine List.pairwise_flatMap.mpr ⟨fun t ht => ?_, ?_⟩
  · obtain ⟨a, b, rfl, h1, h2, h3⟩ := (g.el t ht).two
    show List.Pairwise (fun x y : Int => x ≠ y) ((if a = p then [b] else []) ++ (if b = p then [a] else []))
    by_cases ha : a = p
    · rw [if_pos ha, if_neg (by omega)]; simp
    · rw [if_neg ha]; split <;> simp
  · have hn := g.nodup
    refine List.Pairwise.imp_of_mem (R := fun a b => a ≠ b) ?_ hn
    intro a b ha hb hne x hx y hy e
    subst e
    rw [nbr1_mem (g.el a ha)] at hx
    rw [nbr1_mem (g.el b hb)] at hy
    exact hne (hx.trans hy.symm)
theorem nbr1_len (p : Int) (t : List Int) : (nbr1 p t).length ≤ 2 := by
  unfold nbr1
  split
  · rw [List.length_append]; split <;> split <;> simp
  · simp
theorem flatMap_len {α β : Type} {f : α → List β} {k : Nat} : ∀ {xs : List α}, (∀ x ∈ xs, (f x).length ≤ k) → (xs.flatMap f).length ≤ xs.length * k
  | [], _ => by simp
  | x :: xs, h => by
    rw [List.flatMap_cons, List.length_append, List.length_cons, Nat.add_mul]
    have h1 := h x List.mem_cons_self
    have h2 := flatMap_len fun y hy => h y (List.mem_cons_of_mem _ hy)
    omega
theorem nbrs_len {m p : Int} {ts : List (List Int)} (g : Good 2 m ts) : (nbrs ts p).length ≤ 2000 := by
  have h1 := flatMap_len (f := nbr1 p) (k := 2) (xs := ts) fun t _ => nbr1_len p t
  have h2 := g.few
  unfold nbrs
  omega
theorem nbrs_rng {m p x : Int} {ts : List (List Int)} (g : Good 2 m ts) (h : x ∈ nbrs ts p) : 0 ≤ x ∧ x ≤ m - 1 := by
  rw [nbrs_mem g] at h
  have := (g.el _ h).rng x (by unfold tieOf; by_cases h1 : x < p <;> simp [h1]; omega)
  exact this
def goalsP (ts : List (List Int)) (ms : List (Option Bool)) (w : Bool) (b : Int) : List Int :=
  if 3 < (idxs (isMan w) ms).length then (nbrs ts b).filter fun p => (atM ms p).isNone else idxs (·.isNone) ms
def stepsP (ts : List (List Int)) (ms : List (Option Bool)) (l : Int) (w : Bool) : List (Int × Int) :=
  if 0 < l then (idxs (·.isNone) ms).map fun g => (-1, g) else (idxs (isMan w) ms).flatMap fun b => (goalsP ts ms w b).map fun g => (b, g)
def lgoalsP (ts : List (List Int)) (ms : List (Option Bool)) (w : Bool) (b : Int) : List Int :=
  (idxs (·.isNone) ms).filter fun g => decide ((idxs (isMan w) ms).length < 4) || decide (tieOf b g ∈ ts)
def lstepsP (ts : List (List Int)) (ms : List (Option Bool)) (l : Int) (w : Bool) : List (Int × Int) :=
  if 0 < l then (idxs (·.isNone) ms).map fun g => (-1, g) else (idxs (isMan w) ms).flatMap fun b => (lgoalsP ts ms w b).map fun g => (b, g)
theorem perm_flatMap {α β : Type} {f g : α → List β} : ∀ {xs : List α}, (∀ x ∈ xs, (f x).Perm (g x)) → (xs.flatMap f).Perm (xs.flatMap g)
  | [], _ => .refl _
  | x :: xs, h => by
    rw [List.flatMap_cons, List.flatMap_cons]
    exact (h x List.mem_cons_self).append (perm_flatMap fun y hy => h y (List.mem_cons_of_mem _ hy))
theorem goals_perm {m : Int} {ts : List (List Int)} {ms : List (Option Bool)} (g : Good 2 m ts) (hl : (ms.length : Int) = m) (w : Bool) (b : Int) : (goalsP ts ms w b).Perm (lgoalsP ts ms w b) := by
  unfold goalsP lgoalsP
  by_cases h : 3 < (idxs (isMan w) ms).length
  · rw [if_pos h]
    have h' : ¬ (idxs (isMan w) ms).length < 4 := by omega
    refine (List.perm_ext_iff_of_nodup ((nbrs_nodup g).filter _) (idxs_nodup.filter _)).mpr fun x => ?_
    simp only [List.mem_filter, nbrs_mem g, idxs_mem, h', decide_false, Bool.false_or, decide_eq_true_eq]
    constructor
    · rintro ⟨h1, h2⟩
      have := nbrs_rng g ((nbrs_mem g).mpr h1)
      exact ⟨⟨this.1, by omega, h2⟩, h1⟩
    · rintro ⟨⟨_, _, h2⟩, h1⟩
      exact ⟨h1, h2⟩
  · rw [if_neg h]
    have h' : (idxs (isMan w) ms).length < 4 := by omega
    simp only [h', decide_true, Bool.true_or]
    rw [List.filter_eq_self.mpr (fun _ _ => rfl)]
theorem steps_perm {m : Int} {ts : List (List Int)} {ms : List (Option Bool)} (g : Good 2 m ts) (hl : (ms.length : Int) = m) (l : Int) (w : Bool) : (stepsP ts ms l w).Perm (lstepsP ts ms l w) := by
  unfold stepsP lstepsP
  split
  · exact .refl _
  · exact perm_flatMap fun b _ => (goals_perm g hl w b).map _
/-! ### what may be taken; moves -/
def stepM (ms : List (Option Bool)) (b g : Int) (w : Bool) : List (Option Bool) := (if 0 ≤ b then ms.set b.toNat none else ms).set g.toNat (some w)
def inR (g : Int) (r : List Int) : Bool := decide (g ∈ r)
def rowsP (rs : List (List Int)) (ms : List (Option Bool)) (w : Bool) : List (List Int) := rs.filter (fullR ms w)
def freeP (rs : List (List Int)) (ms : List (Option Bool)) (w : Bool) : List Int := (idxs (isMan !w) ms).filter fun p => !((rowsP rs ms !w).any (inR p))
def takP (rs : List (List Int)) (ms : List (Option Bool)) (g : Int) (w : Bool) : List Int :=
  if (rowsP rs ms w).any (inR g) then (if (freeP rs ms w).isEmpty then (if (idxs (isMan !w) ms).isEmpty then [-1] else idxs (isMan !w) ms) else freeP rs ms w) else [-1]
def movesOf (rs : List (List Int)) (ms : List (Option Bool)) (w : Bool) (ss : List (Int × Int)) : List (List Int) :=
  ss.flatMap fun s => (takP rs (stepM ms s.1 s.2 w) s.2 w).map fun t => [s.1, s.2, t]
def winP (ts : List (List Int)) (ms : List (Option Bool)) (l : Int) (w : Bool) : Bool := decide (((idxs (isMan w) ms).length : Int) + l < 3) || (stepsP ts ms l w).isEmpty
def movesP (ts rs : List (List Int)) (ms : List (Option Bool)) (l : Int) (w : Bool) : List (List Int) :=
  if winP ts ms l w then [] else sortT (movesOf rs ms w (stepsP ts ms l w))
theorem moves_eq {m : Int} {ts rs : List (List Int)} {ms : List (Option Bool)} (g : Good 2 m ts) (hl : (ms.length : Int) = m) (l : Int) (w : Bool) : sortT (movesOf rs ms w (stepsP ts ms l w)) = sortT (movesOf rs ms w (lstepsP ts ms l w)) :=
  sortT_perm (List.Perm.flatMap_right _ (steps_perm g hl l w))
theorem steps_empty {m : Int} {ts : List (List Int)} {ms : List (Option Bool)} (g : Good 2 m ts) (hl : (ms.length : Int) = m) (l : Int) (w : Bool) : (lstepsP ts ms l w).isEmpty = (stepsP ts ms l w).isEmpty := by
  have h := (steps_perm g hl l w).length_eq
  cases h1 : stepsP ts ms l w <;> cases h2 : lstepsP ts ms l w <;> simp_all
theorem stepM_len {ms : List (Option Bool)} {b g : Int} {w : Bool} : (stepM ms b g w).length = ms.length := by
  unfold stepM; split <;> simp
theorem goals_sub {m : Int} {ts : List (List Int)} {ms : List (Option Bool)} (g : Good 2 m ts) (hl : (ms.length : Int) = m) {w : Bool} {b x : Int} (h : x ∈ goalsP ts ms w b) : 0 ≤ x ∧ x < m ∧ atM ms x = none := by
  have h := (goals_perm g hl w b).mem_iff.mp h
  unfold lgoalsP at h
  obtain ⟨h, _⟩ := List.mem_filter.mp h
  obtain ⟨h1, h2, h3⟩ := idxs_mem.mp h
  exact ⟨h1, by omega, by simpa using h3⟩
theorem steps_mem {m : Int} {ts : List (List Int)} {ms : List (Option Bool)} (g : Good 2 m ts) (hl : (ms.length : Int) = m) {l : Int} {w : Bool} {s : Int × Int} (h : s ∈ stepsP ts ms l w) :
    0 ≤ s.2 ∧ s.2 < m ∧ atM ms s.2 = none ∧ ((0 < l ∧ s.1 = -1) ∨ (¬ 0 < l ∧ 0 ≤ s.1 ∧ s.1 < m ∧ atM ms s.1 = some w)) := by
  unfold stepsP at h
  split at h
  · obtain ⟨x, hx, rfl⟩ := List.mem_map.mp h
    obtain ⟨h1, h2, h3⟩ := idxs_mem.mp hx
    exact ⟨h1, by omega, by simpa using h3, .inl ⟨by assumption, rfl⟩⟩
  · obtain ⟨b, hb, h⟩ := List.mem_flatMap.mp h
    obtain ⟨x, hx, rfl⟩ := List.mem_map.mp h
    obtain ⟨h1, h2, h3⟩ := idxs_mem.mp hb
    obtain ⟨g1, g2, g3⟩ := goals_sub g hl hx
    exact ⟨g1, g2, g3, .inr ⟨by assumption, h1, by omega, by simpa [isMan] using h3⟩⟩
theorem goals_len {m : Int} {ts : List (List Int)} {ms : List (Option Bool)} (g : Good 2 m ts) (hl : ms.length ≤ 24) {w : Bool} {b : Int} : (goalsP ts ms w b).length ≤ 2000 := by
  unfold goalsP
  split
  · exact Nat.le_trans (List.length_filter_le _ _) (nbrs_len g)
  · exact Nat.le_trans idxs_len (by omega)
theorem steps_len {m : Int} {ts : List (List Int)} {ms : List (Option Bool)} (g : Good 2 m ts) (hl : ms.length ≤ 24) {l : Int} {w : Bool} : (stepsP ts ms l w).length ≤ 48000 := by
  unfold stepsP
  split
  · rw [List.length_map]
    exact Nat.le_trans idxs_len (by omega)
  · refine Nat.le_trans (flatMap_len (k := 2000) fun b _ => by rw [List.length_map]; exact goals_len g hl) ?_
    have := idxs_len (q := isMan w) (ms := ms)
    omega
theorem lsteps_len {m : Int} {ts : List (List Int)} {ms : List (Option Bool)} (g : Good 2 m ts) (hl : (ms.length : Int) = m) (hm : ms.length ≤ 24) {l : Int} {w : Bool} : (lstepsP ts ms l w).length ≤ 48000 := by
  rw [← (steps_perm g hl l w).length_eq]; exact steps_len g hm
theorem tak_len {rs : List (List Int)} {ms : List (Option Bool)} {g : Int} {w : Bool} (hl : ms.length ≤ 24) : (takP rs ms g w).length ≤ 24 := by
  have h1 := idxs_len (q := isMan !w) (ms := ms)
  unfold takP
  split
  · split
    · split
      · simp
      · omega
    · unfold freeP
      exact Nat.le_trans (List.length_filter_le _ _) (by omega)
  · simp
/-! ### stands -/
def lft (a b : Int) (w : Bool) : Int := if w then b else a
def standD (ms : List (Option Bool)) (a b : Int) (w : Bool) : D := .tup [.tup (mensD ms), .tup [.int a, .int b], .int (whoI w)]
theorem who_not (w : Bool) : 1 - whoI w = whoI (!w) := by cases w <;> rfl
theorem sub_men {ms : List (Option Bool)} {a b : Int} {w : Bool} : subD (standD ms a b w) (.int 0) = .ok (.tup (mensD ms)) := rfl
theorem sub_left {ms : List (Option Bool)} {a b : Int} {w : Bool} : subD (standD ms a b w) (.int 1) = .ok (.tup [.int a, .int b]) := rfl
theorem sub_turn {ms : List (Option Bool)} {a b : Int} {w : Bool} : subD (standD ms a b w) (.int 2) = .ok (.int (whoI w)) := rfl
theorem sub_lft {a b : Int} {w : Bool} : subD (.tup [.int a, .int b]) (.int (whoI w)) = .ok (.int (lft a b w)) := by cases w <;> rfl
theorem sub_ties {m : Int} {ts rs : List (List Int)} : subD (boardD m ts rs) (.int 1) = .ok (tupsD ts) := rfl
theorem sub_rows {m : Int} {ts rs : List (List Int)} : subD (boardD m ts rs) (.int 2) = .ok (tupsD rs) := rfl
theorem sub_many {m : Int} {ts rs : List (List Int)} : subD (boardD m ts rs) (.int 0) = .ok (.int m) := rfl
theorem man_at' {ms : List (Option Bool)} {p : Int} (h : 0 ≤ p ∧ p < ms.length) : subD (.tup (mensD ms)) (.int p) = .ok (manD (atM ms p)) := man_at (m := ms.length) rfl ⟨h.1, by omega⟩
theorem isn_man {o : Option Bool} : isNon (manD o) = o.isNone := isNon_man o
theorem idxs_enumD (q : Option Bool → Bool) (ms : List (Option Bool)) : (ms.zipIdx.filterMap fun p => if q p.1 then some (D.int (p.2 : Nat)) else none) = (idxs q ms).map D.int := by
  rw [← idxs_enum, List.map_filterMap]
  congr 1
  funext p
  split <;> rfl
theorem idxs_rangeD (q : Option Bool → Bool) (ms : List (Option Bool)) : ((List.range ms.length).filterMap fun i => if q (ms.getD i none) then some (D.int (i : Nat)) else none) = (idxs q ms).map D.int := by
  unfold idxs
  rw [List.map_filterMap]
  congr 1
  funext p
  split <;> rfl
theorem rangeD_map (n : Nat) : rangeD 0 n = (List.range n).map fun i : Nat => D.int i := by
  unfold rangeD
  congr 1
  funext i
  rw [Int.zero_add]
theorem atM_nat (ms : List (Option Bool)) (i : Nat) : atM ms (i : Int) = ms.getD i none := by unfold atM; simp
def pairD (s : Int × Int) : D := .tup [.int s.1, .int s.2]
theorem filter_D {α : Type} (e : α → D) (p : α → Bool) (xs : List α) : (xs.filterMap fun x => if p x then some (e x) else none) = (xs.filter p).map e := by
  rw [← List.filterMap_eq_map, ← List.filterMap_eq_filter, List.filterMap_filterMap]
  congr 1
  funext x
  cases h : p x <;> simp [Option.guard, h]
theorem tups_intT (ts : List (List Int)) : tupsD ts = .tup (ts.map intT) := rfl
theorem compL_filt {α : Type} {f : D → R (Option D)} {e g : α → D} {p : α → Bool} {xs : List α} (h : ∀ x ∈ xs, f (e x) = .ok (if p x then some (g x) else none)) : compL f (xs.map e) = .ok ((xs.filter p).map g) := by
  rw [compL_opt h, filter_D]
theorem noLists_pairs (ss : List (Int × Int)) : noLists (ss.map pairD) = true := by
  unfold noLists
  induction ss with
  | nil => rfl
  | cons s ss ih =>
    show (flat 60 (pairD s) && flats 60 (ss.map pairD)) = true
    rw [ih]; rfl
@[simp] theorem noexc_ite {α : Type} {c : Prop} [Decidable c] {a b : α} : (if c then R.ok a else R.ok b).noexc = R.ok (if c then a else b) := by split <;> rfl
theorem k_enum {f : D → R (Option D)} {ms : List (Option Bool)} (q : Option Bool → Bool) (h : ∀ (o : Option Bool) (i : Nat), f (.tup [.int (i : Nat), manD o]) = .ok (if q o = true then some (.int (i : Nat)) else none)) : compL f (enumL (mensD ms)) = .ok ((idxs q ms).map D.int) := by
  rw [enum_men, compL_opt (g := fun p : Option Bool × Nat => if q p.1 = true then some (D.int (p.2 : Nat)) else none), idxs_enumD]
  exact fun p _ => h p.1 p.2
theorem k_ints {f : D → R (Option D)} {xs : List Int} (g : Int → D) (h : ∀ x ∈ xs, f (.int x) = .ok (some (g x))) : compL f (xs.map D.int) = .ok (xs.map g) := compL_map h
theorem k_intsF {f : D → R (Option D)} {xs : List Int} (p : Int → Bool) (g : Int → D) (h : ∀ x ∈ xs, f (.int x) = .ok (if p x = true then some (g x) else none)) : compL f (xs.map D.int) = .ok ((xs.filter p).map g) := compL_filt h
def goneTo (ts : List (List Int)) (ms : List (Option Bool)) (w : Bool) (pre : List Int) : List (Int × Int) := pre.flatMap fun b => (goalsP ts ms w b).map fun g => (b, g)
theorem goneTo_snoc (ts : List (List Int)) (ms : List (Option Bool)) (w : Bool) (pre : List Int) (x : Int) : goneTo ts ms w (pre ++ [x]) = goneTo ts ms w pre ++ (goalsP ts ms w x).map fun g => (x, g) := by
  unfold goneTo; simp
theorem goneTo_len {m : Int} {ts : List (List Int)} {ms : List (Option Bool)} {w : Bool} {pre : List Int} (g : Good 2 m ts) (h24 : ms.length ≤ 24) : (goneTo ts ms w pre).length ≤ pre.length * 2000 := flatMap_len fun b _ => by rw [List.length_map]; exact goals_len g h24
theorem steps_gone {ts : List (List Int)} {ms : List (Option Bool)} {l : Int} {w : Bool} (h : ¬ 0 < l) : stepsP ts ms l w = goneTo ts ms w (idxs (isMan w) ms) := by unfold stepsP goneTo; rw [if_neg h]
theorem movesOf_snoc (rs : List (List Int)) (ms : List (Option Bool)) (w : Bool) (pre : List (Int × Int)) (s : Int × Int) : movesOf rs ms w (pre ++ [s]) = movesOf rs ms w pre ++ (takP rs (stepM ms s.1 s.2 w) s.2 w).map fun t => [s.1, s.2, t] := by
  unfold movesOf; simp
theorem movesOf_len {rs : List (List Int)} {ms : List (Option Bool)} {w : Bool} {ss : List (Int × Int)} (h24 : ms.length ≤ 24) : (movesOf rs ms w ss).length ≤ ss.length * 24 := flatMap_len fun s _ => by
  rw [List.length_map]; exact tak_len (by rw [stepM_len]; exact h24)
theorem eqv_int (a b : Int) : eqv (.int a) (.int b) = decide (a = b) := by
  unfold eqv
  simp only [toPy, PySem.PyData.eqv]
  by_cases h : a = b <;> simp [h]
theorem shaps_ints' (n : Nat) : ∀ ns : List Int, shaps n (ns.map D.int) = true
  | [] => by simp [shaps]
  | i :: ns => by
    have ih := shaps_ints' n ns
    cases n <;> simp [shaps, shap, ih]
theorem shape_intT (r : List Int) : shape (intT r) = true := by unfold shape intT; simp [shap, shaps_ints']
theorem any_eqv_ints (g : Int) (r : List Int) : ((r.map D.int).any fun z => eqv z (.int g)) = inR g r := by
  unfold inR
  induction r with
  | nil => simp
  | cons x r ih =>
    rw [List.map_cons, List.any_cons, ih, eqv_int]
    by_cases h : g = x
    · simp [h]
    · have h' : ¬ x = g := fun e => h e.symm
      simp [h, h']
theorem q_innT (g : Int) (r : List Int) : cmpop .inn (.int g) (intT r) = .ok (.bl (inR g r)) := by
  show (inOne (.int g) (intT r)).bind _ = _
  have : inOne (.int g) (intT r) = .ok (inR g r) := by
    show chk (shape (.int g) && shape (intT r)) (.ok ((r.map D.int).any fun z => eqv z (.int g))) = _
    rw [shape_intT, any_eqv_ints]; rfl
  rw [this]; rfl
theorem k_tups {f : D → R (Option D)} {xs : List (List Int)} (g : List Int → D) (h : ∀ x ∈ xs, f (intT x) = .ok (some (g x))) : compL f (xs.map intT) = .ok (xs.map g) := compL_map h
theorem k_tupsF {f : D → R (Option D)} {xs : List (List Int)} (p : List Int → Bool) (g : List Int → D) (h : ∀ x ∈ xs, f (intT x) = .ok (if p x = true then some (g x) else none)) : compL f (xs.map intT) = .ok ((xs.filter p).map g) := compL_filt h
theorem man_atN {ms : List (Option Bool)} {i : Nat} (h : i < ms.length) : subD (.tup (mensD ms)) (.int (i : Nat)) = .ok (manD (atM ms (i : Int))) := man_at' ⟨by omega, by omega⟩
theorem man_atL {ms : List (Option Bool)} {p : Int} (h : 0 ≤ p ∧ p < ms.length) : subD (.lst (mensD ms)) (.int p) = .ok (manD (atM ms p)) := man_at' h
theorem man_atLN {ms : List (Option Bool)} {i : Nat} (h : i < ms.length) : subD (.lst (mensD ms)) (.int (i : Nat)) = .ok (manD (atM ms (i : Int))) := man_atN h
theorem k_rangeQ {f : D → R (Option D)} {ms : List (Option Bool)} (q : Option Bool → Bool) (h : ∀ i : Nat, i < ms.length → f (.int (i : Nat)) = .ok (if q (atM ms (i : Int)) = true then some (.int (i : Nat)) else none)) : compL f (rangeD 0 ms.length) = .ok ((idxs q ms).map D.int) := by
  rw [rangeD_map, ← idxs_rangeD]
  refine compL_opt fun i hi => ?_
  rw [h i (List.mem_range.mp hi), atM_nat]
theorem okR_len {ms : List (Option Bool)} (h : ms.length ≤ 24) : okR (ms.length : Int) = true := by simp [okR]; omega
theorem full3' (M : D) (hM : ∀ p : Int, 0 ≤ p ∧ p < ms.length → subD M (.int p) = .ok (manD (atM ms p))) (b : Bool) (r : List Int) (h3 : r.length = 3) (h : ∀ p ∈ r, 0 ≤ p ∧ p < (ms.length : Int)) :
    ((compL (fun d => ((subD M d).bind fun x => .ok (some x)).noexc) (r.map D.int)).bind fun x => R.ok (D.lst x)).bind (fun x => cmpop .eq x (.lst [.int (whoI b), .int (whoI b), .int (whoI b)])) = .ok (.bl (fullR ms b r)) := by
  match r, h3 with
  | [p, q, s], _ =>
    have h1 := hM p (h p (by simp))
    have h2 := hM q (h q (by simp))
    have h4 := hM s (h s (by simp))
    have e : fullR ms b [p, q, s] = (decide (atM ms p = some b) && (decide (atM ms q = some b) && decide (atM ms s = some b))) := by simp [fullR, atM]
    rw [e]
    simp only [List.map_cons, List.map_nil, k_cons, k_nil, h1, h2, h4, R.ok_bind, R.noexc_ok]
    generalize atM ms p = x
    generalize atM ms q = y
    generalize atM ms s = z
    cases x with
    | none => cases y <;> cases z <;> cases b <;> first | rfl | (rename_i u v; cases u <;> cases v <;> rfl) | (rename_i u; cases u <;> rfl)
    | some x => cases y with
      | none => cases z with
        | none => cases x <;> cases b <;> rfl
        | some z => cases x <;> cases z <;> cases b <;> rfl
      | some y => cases z with
        | none => cases x <;> cases y <;> cases b <;> rfl
        | some z => cases x <;> cases y <;> cases z <;> cases b <;> rfl
theorem q_inT (t : List Int) (ts : List (List Int)) : cmpop .inn (intT t) (tupsD ts) = .ok (.bl (decide (t ∈ ts))) := by
  show (inOne (intT t) (tupsD ts)).bind _ = _
  have hs : ∀ n (ts : List (List Int)), shaps (n + 1) (ts.map intT) = true := fun n ts => by
    induction ts with
    | nil => simp [shaps]
    | cons x ts ih => simp only [List.map_cons, shaps, ih, Bool.and_true]; unfold intT; simp [shap, shaps_ints']
  have : inOne (intT t) (tupsD ts) = .ok (decide (t ∈ ts)) := by
    show chk (shape (intT t) && shape (tupsD ts)) (.ok ((ts.map intT).any fun z => eqv z (intT t))) = _
    have h2 : shape (tupsD ts) = true := by unfold shape tupsD; simp [shap, hs]
    rw [shape_intT, h2]
    have : ((ts.map intT).any fun z => eqv z (intT t)) = decide (t ∈ ts) := by
      rw [List.any_map]
      induction ts with
      | nil => simp
      | cons x ts ih =>
        rw [List.any_cons, ih (by unfold shape tupsD; simp [shap, hs])]
        simp only [Function.comp, eqv_intT]
        by_cases h : t = x
        · simp [h]
        · have h' : ¬ x = t := fun e => h e.symm
          simp [h, h']
    rw [this]; rfl
  rw [this]; rfl
theorem lgoals_len {ts : List (List Int)} {ms : List (Option Bool)} {w : Bool} {b : Int} : (lgoalsP ts ms w b).length ≤ ms.length := Nat.le_trans (List.length_filter_le _ _) idxs_len
def lgone (ts : List (List Int)) (ms : List (Option Bool)) (w : Bool) (pre : List Int) : List (Int × Int) := pre.flatMap fun b => (lgoalsP ts ms w b).map fun g => (b, g)
theorem lgone_snoc (ts : List (List Int)) (ms : List (Option Bool)) (w : Bool) (pre : List Int) (x : Int) : lgone ts ms w (pre ++ [x]) = lgone ts ms w pre ++ (lgoalsP ts ms w x).map fun g => (x, g) := by
  unfold lgone; simp
theorem lgone_len {ts : List (List Int)} {ms : List (Option Bool)} {w : Bool} {pre : List Int} : (lgone ts ms w pre).length ≤ pre.length * ms.length := flatMap_len fun b _ => by rw [List.length_map]; exact lgoals_len
theorem lsteps_gone {ts : List (List Int)} {ms : List (Option Bool)} {l : Int} {w : Bool} (h : ¬ 0 < l) : lstepsP ts ms l w = lgone ts ms w (idxs (isMan w) ms) := by unfold lstepsP lgone; rw [if_neg h]
def ltie (ts : List (List Int)) (ms : List (Option Bool)) (w : Bool) (b g : Int) : Bool := decide ((idxs (isMan w) ms).length < 4) || decide (tieOf b g ∈ ts)
theorem elems_intT (r : List Int) : elems (intT r) = .ok (r.map D.int) := rfl
theorem sqs_intT (r : List Int) : sqs (intT r) = .ok (r.map D.int) := rfl
theorem ltie_eq (ts : List (List Int)) (ms : List (Option Bool)) (w : Bool) (b : Int) (pre : List Int) : lgoalsP ts ms w b = (idxs (·.isNone) ms).filter (ltie ts ms w b) := rfl
theorem flats_ints' (n : Nat) (r : List Int) : flats n (r.map D.int) = true := flats_ints n r
@[simp] theorem z_cntT {xs : List D} : recv .count (.tup xs) = true := rfl
theorem eqv_man (o : Option Bool) (b : Bool) : eqv (manD o) (.int (whoI b)) = isMan b o := by
  cases o with
  | none => rfl
  | some a => cases a <;> cases b <;> rfl
theorem count_men (ms : List (Option Bool)) (b : Bool) : meth .count (.tup (mensD ms)) [.int (whoI b)] = .ok (.int ((idxs (isMan b) ms).length : Nat)) := by
  show chk (shape (D.int (whoI b)) && shape (D.tup (mensD ms))) (R.ok (D.int (((mensD ms).countP fun z => eqv z (D.int (whoI b)) : Nat) : Int))) = _
  have h1 : shape (D.int (whoI b)) = true := rfl
  have h2 : shape (D.tup (mensD ms)) = true := by unfold shape; simp [shap, shaps_men]
  have h3 : ((mensD ms).countP fun z => eqv z (D.int (whoI b))) = (idxs (isMan b) ms).length := by
    rw [idxs_count]
    unfold mensD
    rw [List.countP_map]
    congr 1
    funext o
    exact eqv_man o b
  rw [h1, h2, h3]; rfl
theorem k_men {f : D → R (Option D)} {ms : List (Option Bool)} (g : Option Bool → Nat → Option Bool) (h : ∀ (o : Option Bool) (i : Nat), f (.tup [.int (i : Nat), manD o]) = .ok (some (manD (g o i)))) : compL f (enumL (mensD ms)) = .ok (mensD (ms.zipIdx.map fun p => g p.1 p.2)) := by
  rw [enum_men, compL_map (g := fun p : Option Bool × Nat => manD (g p.1 p.2)) fun p _ => h p.1 p.2]
  unfold mensD
  rw [List.map_map]; rfl
theorem men_but (ms : List (Option Bool)) (b : Int) (hb : -1 ≤ b) : (ms.zipIdx.map fun p => if (p.2 : Int) = b then none else p.1) = if 0 ≤ b then ms.set b.toNat none else ms := by
  apply List.ext_getElem?
  intro i
  rw [List.getElem?_map, List.getElem?_zipIdx]
  by_cases h : 0 ≤ b
  · rw [if_pos h, List.getElem?_set]
    by_cases e : b.toNat = i
    · have e' : (i : Int) = b := by omega
      rw [if_pos e]
      by_cases hi : i < ms.length
      · simp [hi, e', e]
      · simp [hi, e]
    · have e' : ¬ (i : Int) = b := by omega
      rw [if_neg e]
      cases ms[i]? <;> simp [e']
  · rw [if_neg h]
    have e' : ¬ (i : Int) = b := by omega
    cases ms[i]? <;> simp [e']
theorem any_ne {α : Type} {p : α → Bool} {xs : List α} : (!((xs.filter p).isEmpty)) = xs.any p := by
  induction xs with
  | nil => rfl
  | cons x xs ih => rw [List.filter_cons, List.any_cons]; cases h : p x <;> simp [ih]
def heldP (rs : List (List Int)) (ms : List (Option Bool)) (w : Bool) : List Int := (rowsP rs ms w).flatten
theorem held_in (p : Int) (xs : List (List Int)) : decide (p ∈ xs.flatten) = xs.any (inR p) := by
  induction xs with
  | nil => simp
  | cons x xs ih =>
    rw [List.flatten_cons, List.any_cons, ← ih]
    simp [inR]
theorem q_ninL (g : Int) (r : List Int) : cmpop .nin (.int g) (.lst (r.map .int)) = .ok (.bl (!(inR g r))) := by
  show (inOne (.int g) (.lst (r.map .int))).bind _ = _
  have : inOne (.int g) (.lst (r.map .int)) = .ok (inR g r) := by
    show chk (shape (.int g) && shape (.lst (r.map .int))) (.ok ((r.map D.int).any fun z => eqv z (.int g))) = _
    have h2 : shape (.lst (r.map .int)) = true := by unfold shape; simp [shap, shaps_ints']
    rw [h2, any_eqv_ints]; rfl
  rw [this]; rfl
theorem ite_ok {α : Type} {c : Prop} [Decidable c] {a b : α} : (if c then R.ok a else R.ok b) = R.ok (if c then a else b) := by split <;> rfl
theorem man_ite {c : Prop} [Decidable c] {o : Option Bool} : manD (if c then none else o) = if c then D.non else manD o := by split <;> rfl
theorem inR_flat (p : Int) (xs : List (List Int)) : inR p xs.flatten = xs.any (inR p) := held_in p xs
theorem filter_none {α : Type} {p : α → Bool} {xs : List α} (h : xs.any p = false) : xs.filter p = [] := by
  rw [List.filter_eq_nil_iff]
  intro x hx
  rw [List.any_eq_false] at h
  exact h x hx
theorem filter_some {α : Type} {p : α → Bool} {xs : List α} (h : xs.any p = true) : xs.filter p ≠ [] := by
  intro e
  rw [List.filter_eq_nil_iff] at e
  rw [List.any_eq_true] at h
  obtain ⟨x, hx, hp⟩ := h
  exact e x hx hp
theorem tr3 {a b c : Int} : D.tup [.int a, .int b, .int c] = intT [a, b, c] := rfl
theorem whoI_of {t : Int} (h : 0 ≤ t ∧ t ≤ 1) : ∃ w, t = whoI w := by
  by_cases e : t = 0
  · exact ⟨false, e⟩
  · exact ⟨true, by show t = 1; omega⟩
theorem Stand.is {m : Int} {s : D} {ms : List (Option Bool)} {a b t : Int} (h : Stand m s ms a b t) : ∃ w, t = whoI w ∧ s = standD ms a b w := by
  obtain ⟨w, hw⟩ := whoI_of h.tn
  exact ⟨w, hw, by rw [h.eq, hw]; rfl⟩
theorem forL_all {body : SEnv → R Fl} {tg : TG} {fg : List Nat} {env : SEnv} : ∀ {ds : List D}, (∀ d ∈ ds, ((setTS tg d env).bind fun env1 => stepR fg (body env1)) = .ok env) → forL body tg fg ds env = .ok (.nx env)
  | [], _ => rfl
  | d :: ds, h => by rw [forL_step (h d List.mem_cons_self)]; exact forL_all fun x hx => h x (List.mem_cons_of_mem _ hx)
/-! ### what comes -/
def afterM (ms : List (Option Bool)) (b g t : Int) (w : Bool) : List (Option Bool) := if 0 ≤ t then (stepM ms b g w).set t.toNat none else stepM ms b g w
def lessA (b a : Int) (w : Bool) : Int := if b < 0 ∧ w = false then a - 1 else a
def lessB (b a : Int) (w : Bool) : Int := if b < 0 ∧ w = true then a - 1 else a
theorem movesOf_mem {rs : List (List Int)} {ms : List (Option Bool)} {w : Bool} {ss : List (Int × Int)} {x : List Int} (h : x ∈ movesOf rs ms w ss) : ∃ b g t, x = [b, g, t] ∧ (b, g) ∈ ss ∧ t ∈ takP rs (stepM ms b g w) g w := by
  obtain ⟨s, hs, h⟩ := List.mem_flatMap.mp h
  obtain ⟨t, ht, rfl⟩ := List.mem_map.mp h
  exact ⟨s.1, s.2, t, rfl, hs, ht⟩
theorem tak_mem {rs : List (List Int)} {ms : List (Option Bool)} {g t : Int} {w : Bool} (h : t ∈ takP rs ms g w) : t = -1 ∨ (0 ≤ t ∧ t < ms.length ∧ atM ms t = some (!w)) := by
  have key : ∀ x, x ∈ idxs (isMan !w) ms → 0 ≤ x ∧ x < ms.length ∧ atM ms x = some (!w) := fun x hx => by
    obtain ⟨h1, h2, h3⟩ := idxs_mem.mp hx
    exact ⟨h1, h2, by simpa [isMan] using h3⟩
  unfold takP at h
  split at h
  · split at h
    · split at h
      · simp at h; exact .inl h
      · exact .inr (key _ h)
    · unfold freeP at h
      exact .inr (key _ (List.mem_filter.mp h).1)
  · simp at h; exact .inl h
/-- a move of moves -/
structure MoveOk (m : Int) (ts rs : List (List Int)) (ms : List (Option Bool)) (l : Int) (w : Bool) (b g t : Int) : Prop where
  st : (b, g) ∈ stepsP ts ms l w
  tk : t ∈ takP rs (stepM ms b g w) g w
  g0 : 0 ≤ g ∧ g < m
  gn : atM ms g = none
  bb : (0 < l ∧ b = -1) ∨ (¬ 0 < l ∧ 0 ≤ b ∧ b < m ∧ atM ms b = some w)
  tt : t = -1 ∨ (0 ≤ t ∧ t < m ∧ t ≠ g ∧ t ≠ b ∧ atM ms t = some (!w))
  wn : winP ts ms l w = false
theorem atM_stepM {ms : List (Option Bool)} {b g x : Int} {w : Bool} (hb : -1 ≤ b ∧ b < ms.length) (hg : 0 ≤ g ∧ g < ms.length) (hx : 0 ≤ x) : atM (stepM ms b g w) x = if x = g then some w else if x = b then none else atM ms x := by
  unfold stepM
  by_cases h : 0 ≤ b
  · rw [if_pos h, atM_set (by simpa using hg) hx, atM_set ⟨h, hb.2⟩ hx]
  · rw [if_neg h, atM_set hg hx, if_neg (show ¬ x = b by omega)]
theorem moves_mem {m : Int} {ts rs : List (List Int)} {ms : List (Option Bool)} {l : Int} {w : Bool} (g2 : Good 2 m ts) (hl : (ms.length : Int) = m) {x : List Int} (h : x ∈ movesP ts rs ms l w) : ∃ b g t, x = [b, g, t] ∧ MoveOk m ts rs ms l w b g t := by
  unfold movesP at h
  split at h
  · simp at h
  · rename_i hw
    rw [sortT_mem] at h
    obtain ⟨b, g, t, rfl, h1, h2⟩ := movesOf_mem h
    obtain ⟨s1, s2, s3, s4⟩ := steps_mem g2 hl h1
    have hb : -1 ≤ b ∧ b < ms.length := by rcases s4 with s4 | s4 <;> simp only at s4 <;> omega
    have hg : 0 ≤ g ∧ g < (ms.length : Int) := by simp only at s1 s2; omega
    refine ⟨b, g, t, rfl, h1, h2, ⟨s1, s2⟩, s3, s4, ?_, by simpa using hw⟩
    rcases tak_mem h2 with h | ⟨t1, t2, t3⟩
    · exact .inl h
    · rw [stepM_len] at t2
      rw [atM_stepM hb hg t1] at t3
      split at t3
      · rename_i e
        cases w <;> simp at t3
      · split at t3
        · cases t3
        · exact .inr ⟨t1, by omega, by assumption, by assumption, t3⟩
theorem afterM_len {ms : List (Option Bool)} {b g t : Int} {w : Bool} : (afterM ms b g t w).length = ms.length := by
  unfold afterM; split <;> simp [stepM_len]
theorem atM_after {ms : List (Option Bool)} {b g t x : Int} {w : Bool} (hb : -1 ≤ b ∧ b < ms.length) (hg : 0 ≤ g ∧ g < ms.length) (ht : t < ms.length) (hx : 0 ≤ x) : atM (afterM ms b g t w) x = if x = t then none else if x = g then some w else if x = b then none else atM ms x := by
  unfold afterM
  by_cases h : 0 ≤ t
  · rw [if_pos h, atM_set ⟨h, by rw [stepM_len]; exact ht⟩ hx, atM_stepM hb hg hx]
  · rw [if_neg h, atM_stepM hb hg hx, if_neg (show ¬ x = t by omega)]
theorem q_ninT (t : List Int) (ts : List (List Int)) : cmpop .nin (intT t) (tupsD ts) = .ok (.bl (!decide (t ∈ ts))) := by
  have h := q_inT t ts
  have h' : (inOne (intT t) (tupsD ts)).bind (fun k => R.ok (D.bl k)) = .ok (.bl (decide (t ∈ ts))) := h
  obtain ⟨k, h1, h2⟩ := bindR_ok h'
  cases h2
  show (inOne (intT t) (tupsD ts)).bind _ = _
  rw [h1]; rfl
@[simp] theorem s_rse0 {C : Cl} {c : Nat} {se : SEnv} : exec C (.rse c) se = .exc c := rfl
@[simp] theorem s_trQ {C : Cl} {b : SL} {x : Nat} {as : Option (Nat × List Nat)} {se : SEnv} : exec C (.tr b x as) se = match execL C b se with
    | .exc k => chk (decide (k < 2)) (.ok (.nx ((se.map fun _ => Slot.emp).set x (.val (suiteD k as)))))
    | .ok (.nx e) => .ok (.nx e)
    | _ => .bad := rfl
@[simp] theorem s_cont0 {C : Cl} {se : SEnv} : exec C .cont se = .ok (.ct se) := rfl
@[simp] theorem s_whl0 {C : Cl} {t : E} {b : SL} {fg : List Nat} {se : SEnv} : exec C (.whl t b fg) se = whlL (fun env => (eval C t (datas env)).bind truth) (execL C b) fg C.wf (forget fg se) := rfl
@[simp] theorem s_pop0 {C : Cl} {y x : Nat} {se : SEnv} : exec C (.pop y x) se = ownL se x fun ds => match ds.getLast? with
    | some d => .ok (.nx ((se.set x (.own (.lst ds.dropLast))).set y (.val d)))
    | none => .bad := rfl
@[simp] theorem x_rev0 {C : Cl} {a : E} {env : Env} : eval C (.rev a) env = (eval C a env).bind revD := rfl
theorem men_but2 (ms : List (Option Bool)) (b g t : Int) (w : Bool) (hb : -1 ≤ b ∧ b < ms.length) (hg : 0 ≤ g ∧ g < ms.length) (ht : -1 ≤ t ∧ t < ms.length) (hgt : t ≠ g) :
    (ms.zipIdx.map fun p => if (p.2 : Int) = b ∨ (p.2 : Int) = t then none else p.1).set g.toNat (some w) = afterM ms b g t w := by
  apply List.ext_getElem?
  intro i
  by_cases hi : i < ms.length
  · have h1 : (afterM ms b g t w)[i]? = some (atM (afterM ms b g t w) i) := by
      have : i < (afterM ms b g t w).length := by rw [afterM_len]; exact hi
      rw [List.getElem?_eq_getElem this]
      simp [atM, List.getD_eq_getElem?_getD, this]
    rw [h1, atM_after hb hg ht.2 (by omega), List.getElem?_set, List.length_map, List.length_zipIdx]
    by_cases e : g.toNat = i
    · have e' : (i : Int) = g := by omega
      rw [if_pos e, if_pos (by omega), if_neg (by omega), if_pos e']
    · have e' : ¬ (i : Int) = g := by omega
      rw [if_neg e, if_neg e', List.getElem?_map, List.getElem?_zipIdx, List.getElem?_eq_getElem hi]
      simp only [Option.map_some, Nat.zero_add]
      have : atM ms (i : Int) = ms[i] := by simp [atM, List.getD_eq_getElem?_getD, hi]
      rw [this]
      by_cases h2 : (i : Int) = t
      · simp [h2]
      · by_cases h3 : (i : Int) = b
        · rw [if_pos (.inl h3), if_neg h2, if_pos h3]
        · rw [if_neg (by simp [h2, h3]), if_neg h2, if_neg h3]
  · have h1 : (afterM ms b g t w)[i]? = none := List.getElem?_eq_none (by rw [afterM_len]; omega)
    rw [h1, List.getElem?_eq_none (by rw [List.length_set, List.length_map, List.length_zipIdx]; omega)]
theorem q_inn2 (p b t : Int) : cmpop .inn (.int p) (.tup [.int b, .int t]) = .ok (.bl (decide (p = b ∨ p = t))) := by
  have h := q_innT p [b, t]
  have e : inR p [b, t] = decide (p = b ∨ p = t) := by unfold inR; simp
  rw [e] at h
  exact h
theorem sub_pair0 {a b : Int} : subD (.tup [.int a, .int b]) (.int 0) = .ok (.int a) := rfl
theorem sub_pair1 {a b : Int} : subD (.tup [.int a, .int b]) (.int 1) = .ok (.int b) := rfl
theorem sub_lftL {a b : Int} {w : Bool} : subD (.lst [.int a, .int b]) (.int (whoI w)) = .ok (.int (lft a b w)) := by cases w <;> rfl
def whoN (w : Bool) : Nat := if w then 1 else 0
theorem ix_who (w : Bool) : ixN 2 (whoI w) = some (whoN w) := by cases w <;> rfl
theorem less_set {x a b : Int} {w : Bool} (h : x < 0) : [D.int a, D.int b].set (whoN w) (.int (lft a b w - 1)) = [.int (lessA x a w), .int (lessB x b w)] := by
  cases w <;> simp [whoN, lft, lessA, lessB, h]
theorem less_no {x a b : Int} {w : Bool} (h : ¬ x < 0) : lessA x a w = a ∧ lessB x b w = b := by simp [lessA, lessB, h]
@[simp] theorem nl_int {i : Int} : noList (.int i) = true := rfl
@[simp] theorem nl_non : noList .non = true := rfl
@[simp] theorem nl_bl {b : Bool} : noList (.bl b) = true := rfl
@[simp] theorem nl_str {z : PySem.Str} : noList (.str z) = true := rfl
@[simp] theorem nl_pair {a b : Int} : noList (.tup [.int a, .int b]) = true := rfl
theorem nl_men (ms : List (Option Bool)) : noList (.tup (mensD ms)) = true := by unfold noList; simp [flat, flats_men]
theorem nl_intT (r : List Int) : noList (intT r) = true := by unfold noList intT; simp [flat, flats_ints]
theorem nl_stand (ms : List (Option Bool)) (a b : Int) (w : Bool) : noList (standD ms a b w) = true := by
  unfold noList standD
  simp [flat, flats, flats_men]
/-! ### data that are looked at by a law's own == -/
mutual
def sm : Nat → D → Bool
  | _, .non => true
  | _, .int _ => true
  | _, .bl _ => true
  | _, .str s => PySem.PyData.strOk s
  | k + 1, .tup ds => sms k ds
  | _, _ => false
def sms : Nat → List D → Bool
  | _, [] => true
  | k, d :: ds => sm k d && sms k ds
end
theorem sms_mem {k : Nat} : ∀ {ds : List D}, sms k ds = true → ∀ d ∈ ds, sm k d = true
  | [], _, d, h => by simp at h
  | x :: ds, h, d, hd => by
    simp only [sms, Bool.and_eq_true] at h
    rcases List.mem_cons.mp hd with rfl | hd
    · exact h.1
    · exact sms_mem h.2 d hd
theorem sms_of {k : Nat} : ∀ {ds : List D}, (∀ d ∈ ds, sm k d = true) → sms k ds = true
  | [], _ => by simp [sms]
  | x :: ds, h => by simp only [sms, h x List.mem_cons_self, sms_of fun d hd => h d (List.mem_cons_of_mem _ hd), Bool.and_self]
theorem sm_man (k : Nat) (o : Option Bool) : sm k (manD o) = true := by cases o <;> cases k <;> simp [manD, sm]
theorem sm_men (k : Nat) (ms : List (Option Bool)) : sm (k + 1) (.tup (mensD ms)) = true := by
  simp only [sm]
  refine sms_of fun d hd => ?_
  obtain ⟨o, _, rfl⟩ := List.mem_map.mp hd
  exact sm_man k o
theorem sm_stand (k : Nat) (ms : List (Option Bool)) (a b : Int) (w : Bool) : sm (k + 2) (standD ms a b w) = true := by
  unfold standD
  have h := sm_men k ms
  simp [sm, sms] at h ⊢
  exact h
theorem sm_intT (k : Nat) (r : List Int) : sm (k + 1) (intT r) = true := by
  unfold intT
  simp only [sm]
  refine sms_of fun d hd => ?_
  obtain ⟨o, _, rfl⟩ := List.mem_map.mp hd
  cases k <;> simp [sm]
theorem cut_mem {α : Type} {xs : List α} {lo hi : Option Int} {x : α} (h : x ∈ cut xs lo hi) : x ∈ xs := List.mem_of_mem_drop (List.mem_of_mem_take h)
theorem cut_len {α : Type} {xs : List α} {lo hi : Option Int} : (cut xs lo hi).length ≤ xs.length := by
  unfold cut
  rw [List.length_take, List.length_drop]
  omega
theorem cut_map {α β : Type} (f : α → β) (xs : List α) (lo hi : Option Int) : cut (xs.map f) lo hi = (cut xs lo hi).map f := by
  unfold cut
  rw [List.length_map, List.map_take, List.map_drop]
theorem moves_len {m : Int} {ts rs : List (List Int)} {ms : List (Option Bool)} {l : Int} {w : Bool} (g : Good 2 m ts) (h24 : ms.length ≤ 24) : (movesP ts rs ms l w).length ≤ 1152000 := by
  unfold movesP
  split
  · simp
  · have h := (isort_perm (fun a b => decide (a ≤ b)) (movesOf rs ms w (stepsP ts ms l w))).length_eq
    have h2 := movesOf_len (rs := rs) (w := w) (ss := stepsP ts ms l w) h24
    have h3 := steps_len (l := l) (w := w) g h24
    unfold sortT
    omega
theorem slc_tups {ts : List (List Int)} {lo hi : Option Int} : slcD lo hi (tupsD ts) = .ok (tupsD (cut ts lo hi)) := by
  show R.ok (D.tup (cut (ts.map intT) lo hi)) = _
  rw [cut_map]; rfl
theorem add_tups {xs ys : List (List Int)} (h : xs.length + ys.length ≤ LIM) : binop .add (tupsD xs) (tupsD ys) = .ok (tupsD (xs ++ ys)) := by
  show chk (decide ((xs.map intT).length + (ys.map intT).length ≤ LIM)) (R.ok (D.tup (xs.map intT ++ ys.map intT))) = _
  rw [List.length_map, List.length_map, decide_eq_true h, ← List.map_append]; rfl
theorem elems_tups (ts : List (List Int)) : elems (tupsD ts) = .ok (ts.map intT) := rfl
theorem truth_tups (ts : List (List Int)) : truth (tupsD ts) = .ok (!ts.isEmpty) := by
  show R.ok (!(ts.map intT).isEmpty) = _
  cases ts <;> rfl
theorem len_tups (ts : List (List Int)) : blt .len [tupsD ts] = .ok (.int (ts.length : Nat)) := by
  show R.ok (D.int ((ts.map intT).length : Nat)) = _
  rw [List.length_map]
theorem sub_tups {ts : List (List Int)} {i : Nat} (h : i < ts.length) : subD (tupsD ts) (.int (i : Nat)) = .ok (intT ts[i]) := by
  show orBad (atI (ts.map intT) i) = _
  rw [atI_nat (by simpa using h)]
  simp [orBad]
theorem forL_rel {body : SEnv → R Fl} {tg : TG} {fg : List Nat} (P : SEnv → Prop) : ∀ {ds : List D} {env : SEnv}, P env → (∀ d ∈ ds, ∀ env, P env → ∃ env', ((setTS tg d env).bind fun env1 => stepR fg (body env1)) = .ok env' ∧ P env') → ∃ e, forL body tg fg ds env = .ok (.nx e) ∧ P e
  | [], env, h, _ => ⟨env, rfl, h⟩
  | d :: ds, env, h, s => by
    obtain ⟨env', h1, h2⟩ := s d List.mem_cons_self env h
    obtain ⟨e, h3, h4⟩ := forL_rel P h2 fun x hx => s x (List.mem_cons_of_mem _ hx)
    exact ⟨e, by rw [forL_step h1]; exact h3, h4⟩
theorem k_nones (n : Nat) : compL (fun _ => R.ok (some D.non)) (rangeD 0 n) = .ok (mensD (List.replicate n none)) := by
  rw [compL_some (g := fun _ => .non) (fun d hd => rfl)]
  congr 1
  unfold rangeD mensD
  rw [List.map_map]
  apply List.ext_getElem?
  intro i
  simp [List.getElem?_replicate, manD]
  split <;> simp_all
theorem range_lt' {N : Nat} {d : D} (h : d ∈ rangeD 0 N) : ∃ k : Nat, d = .int k ∧ k < N := by
  unfold rangeD at h
  obtain ⟨i, hi, rfl⟩ := List.mem_map.mp h
  exact ⟨i, by rw [Int.zero_add], List.mem_range.mp hi⟩
end Ev

namespace K16
open Ev
def d0 : FD := ⟨"is_whole", 3, ["thing", "low", "high"], [], (.cons (.ret (.bop true (.cons (.isi (.var 0) .int) (.cons (.nt (.isi (.var 0) .bool)) (.cons (.chn .le .le (.var 1) (.var 0) (.var 2)) .nil))))) .nil)⟩
def d1 : FD := ⟨"is_stand", 2, ["board", "thing", "men", "left", "turn", "man", "one"], [], (.cons (.iff (.bop false (.cons (.nt (.isi (.var 1) .tup)) (.cons (.cmp .ne (.blt .len (.cons (.var 1) .nil)) (.cst (.int 3))) (.cons (.nt (.call 0 (.cons (.sub (.var 1) (.cst (.int 2))) (.cons (.cst (.int 0)) (.cons (.cst (.int 1)) .nil))))) .nil)))) (.cons (.ret (.cst (.bl false))) .nil) .nil) (.cons (.asgT [2, 3, 4] (.var 1) []) (.cons (.iff (.bop false (.cons (.nt (.isi (.var 2) .tup)) (.cons (.cmp .ne (.blt .len (.cons (.var 2) .nil)) (.sub (.var 0) (.cst (.int 0)))) .nil))) (.cons (.ret (.cst (.bl false))) .nil) .nil) (.cons (.iff (.nt (.blt .all (.cons (.cmpr (.bop false (.cons (.cmp .is (.var 5) (.cst .non)) (.cons (.call 0 (.cons (.var 5) (.cons (.cst (.int 0)) (.cons (.cst (.int 1)) .nil)))) .nil))) (.one 5) (.it (.var 2)) .nil) .nil))) (.cons (.ret (.cst (.bl false))) .nil) .nil) (.cons (.ret (.bop true (.cons (.isi (.var 3) .tup) (.cons (.cmp .eq (.blt .len (.cons (.var 3) .nil)) (.cst (.int 2))) (.cons (.blt .all (.cons (.cmpr (.call 0 (.cons (.var 6) (.cons (.cst (.int 0)) (.cons (.cst (.int 9)) .nil)))) (.one 6) (.it (.var 3)) .nil) .nil)) .nil))))) .nil)))))⟩
def d2 : FD := ⟨"points_of", 2, ["stand", "who", "p", "man"], [], (.cons (.ret (.cmpr (.var 2) (.tup [2, 3]) (.enu (.sub (.var 0) (.cst (.int 0)))) (.cons (.cmp .eq (.var 3) (.var 1)) .nil))) .nil)⟩
def d3 : FD := ⟨"full_rows", 3, ["board", "men", "who", "row", "p"], [], (.cons (.ret (.cmpr (.var 3) (.one 3) (.it (.sub (.var 0) (.cst (.int 2)))) (.cons (.blt .all (.cons (.cmpr (.cmp .eq (.sub (.var 1) (.var 4)) (.var 2)) (.one 4) (.it (.var 3)) .nil) .nil)) .nil))) .nil)⟩
def d4 : FD := ⟨"count", 2, ["stand", "who"], [], (.cons (.ret (.bin .add (.blt .len (.cons (.call 2 (.cons (.var 0) (.cons (.var 1) .nil))) .nil)) (.sub (.sub (.var 0) (.cst (.int 1))) (.var 1)))) .nil)⟩
def d5 : FD := ⟨"neighbours", 2, ["board", "point", "found", "one", "other"], [2], (.cons (.asgO 2 (.lst .nil) []) (.cons (.for_ (.tup [3, 4]) (.it (.sub (.var 0) (.cst (.int 1)))) (.cons (.iff (.cmp .eq (.var 3) (.var 1)) (.cons (.app 2 (.var 4) []) .nil) .nil) (.cons (.iff (.cmp .eq (.var 4) (.var 1)) (.cons (.app 2 (.var 3) []) .nil) .nil) .nil)) [3, 4] []) (.cons (.ret (.var 2)) .nil)))⟩
def d6 : FD := ⟨"steps", 2, ["board", "stand", "men", "left", "turn", "empty", "mine", "found", "begin", "goals", "p", "man", "goal"], [7], (.cons (.asgT [2, 3, 4] (.var 1) []) (.cons (.asg 5 (.cmpr (.var 10) (.tup [10, 11]) (.enu (.var 2)) (.cons (.cmp .is (.var 11) (.cst .non)) .nil)) []) (.cons (.iff (.cmp .gt (.sub (.var 3) (.var 4)) (.cst (.int 0))) (.cons (.ret (.cmpr (.tup (.cons (.neg (.cst (.int 1))) (.cons (.var 12) .nil))) (.one 12) (.it (.var 5)) .nil)) .nil) .nil) (.cons (.asg 6 (.call 2 (.cons (.var 1) (.cons (.var 4) .nil))) []) (.cons (.asgO 7 (.lst .nil) []) (.cons (.for_ (.one 8) (.it (.var 6)) (.cons (.asg 9 (.var 5) []) (.cons (.iff (.cmp .gt (.blt .len (.cons (.var 6) .nil)) (.cst (.int 3))) (.cons (.asg 9 (.cmpr (.var 10) (.one 10) (.it (.call 5 (.cons (.var 0) (.cons (.var 8) .nil)))) (.cons (.cmp .is (.sub (.var 2) (.var 10)) (.cst .non)) .nil)) []) .nil) .nil) (.cons (.ext 7 (.cmpr (.tup (.cons (.var 8) (.cons (.var 12) .nil))) (.one 12) (.it (.var 9)) .nil) []) .nil))) [8, 9] []) (.cons (.ret (.var 7)) .nil)))))))⟩
def d7 : FD := ⟨"with_step", 4, ["men", "begin", "goal", "who", "found"], [4], (.cons (.asgO 4 (.blt .lis (.cons (.var 0) .nil)) []) (.cons (.iff (.cmp .ge (.var 1) (.cst (.int 0))) (.cons (.setI 4 (.var 1) (.cst .non) []) .nil) .nil) (.cons (.setI 4 (.var 2) (.var 3) []) (.cons (.ret (.blt .tup (.cons (.var 4) .nil))) .nil))))⟩
def d8 : FD := ⟨"takings", 4, ["board", "men", "goal", "who", "other", "rows", "free", "row", "p", "man"], [], (.cons (.iff (.nt (.blt .any (.cons (.cmpr (.cmp .inn (.var 2) (.var 7)) (.one 7) (.it (.call 3 (.cons (.var 0) (.cons (.var 1) (.cons (.var 3) .nil))))) .nil) .nil))) (.cons (.ret (.lst (.cons (.neg (.cst (.int 1))) .nil))) .nil) .nil) (.cons (.asg 4 (.cmpr (.var 8) (.tup [8, 9]) (.enu (.var 1)) (.cons (.cmp .eq (.var 9) (.bin .sub (.cst (.int 1)) (.var 3))) .nil)) []) (.cons (.asg 5 (.call 3 (.cons (.var 0) (.cons (.var 1) (.cons (.bin .sub (.cst (.int 1)) (.var 3)) .nil)))) []) (.cons (.asg 6 (.cmpr (.var 8) (.one 8) (.it (.var 4)) (.cons (.nt (.blt .any (.cons (.cmpr (.cmp .inn (.var 8) (.var 7)) (.one 7) (.it (.var 5)) .nil) .nil))) .nil)) []) (.cons (.ret (.bop false (.cons (.var 6) (.cons (.var 4) (.cons (.lst (.cons (.neg (.cst (.int 1))) .nil)) .nil))))) .nil)))))⟩
def d9 : FD := ⟨"all_moves", 2, ["board", "stand", "men", "left", "turn", "found", "begin", "goal", "taken", "one"], [5], (.cons (.asgT [2, 3, 4] (.var 1) []) (.cons (.asgO 5 (.lst .nil) []) (.cons (.for_ (.tup [6, 7]) (.it (.call 6 (.cons (.var 0) (.cons (.var 1) .nil)))) (.cons (.asg 8 (.call 8 (.cons (.var 0) (.cons (.call 7 (.cons (.var 2) (.cons (.var 6) (.cons (.var 7) (.cons (.var 4) .nil))))) (.cons (.var 7) (.cons (.var 4) .nil))))) []) (.cons (.ext 5 (.cmpr (.tup (.cons (.var 6) (.cons (.var 7) (.cons (.var 9) .nil)))) (.one 9) (.it (.var 8)) .nil) []) .nil)) [6, 7, 8] []) (.cons (.ret (.var 5)) .nil))))⟩
def d10 : FD := ⟨"winner", 2, ["board", "stand", "turn"], [], (.cons (.asg 2 (.sub (.var 1) (.cst (.int 2))) []) (.cons (.iff (.bop false (.cons (.cmp .lt (.call 4 (.cons (.var 1) (.cons (.var 2) .nil))) (.cst (.int 3))) (.cons (.nt (.call 6 (.cons (.var 0) (.cons (.var 1) .nil)))) .nil))) (.cons (.ret (.bin .sub (.cst (.int 1)) (.var 2))) .nil) .nil) (.cons (.ret (.cst .non)) .nil)))⟩
def d11 : FD := ⟨"moves", 2, ["board", "stand"], [], (.cons (.iff (.cmp .nis (.call 10 (.cons (.var 0) (.cons (.var 1) .nil))) (.cst .non)) (.cons (.ret (.tup .nil)) .nil) .nil) (.cons (.ret (.blt .tup (.cons (.blt .srt (.cons (.call 9 (.cons (.var 0) (.cons (.var 1) .nil))) .nil)) .nil))) .nil))⟩
def d12 : FD := ⟨"done", 2, ["stand", "move", "men", "left", "turn", "begin", "goal", "taken", "found", "less"], [8, 9], (.cons (.asgT [2, 3, 4] (.var 0) []) (.cons (.asgT [5, 6, 7] (.var 1) []) (.cons (.asgO 8 (.blt .lis (.cons (.call 7 (.cons (.var 2) (.cons (.var 5) (.cons (.var 6) (.cons (.var 4) .nil))))) .nil)) []) (.cons (.iff (.cmp .ge (.var 7) (.cst (.int 0))) (.cons (.setI 8 (.var 7) (.cst .non) []) .nil) .nil) (.cons (.iff (.cmp .lt (.var 5) (.cst (.int 0))) (.cons (.asgO 9 (.lst (.cons (.sub (.var 3) (.cst (.int 0))) (.cons (.sub (.var 3) (.cst (.int 1))) .nil))) []) (.cons (.setI 9 (.var 4) (.bin .sub (.sub (.var 9) (.var 4)) (.cst (.int 1))) [9]) (.cons (.asg 3 (.blt .tup (.cons (.var 9) .nil)) [9]) .nil))) .nil) (.cons (.ret (.tup (.cons (.blt .tup (.cons (.var 8) .nil)) (.cons (.var 3) (.cons (.bin .sub (.cst (.int 1)) (.var 4)) .nil))))) .nil))))))⟩
def d13 : FD := ⟨"after", 3, ["board", "stand", "move"], [], (.cons (.iff (.cmp .nin (.var 2) (.call 11 (.cons (.var 0) (.cons (.var 1) .nil)))) (.cons (.rse 0) .nil) .nil) (.cons (.ret (.call 12 (.cons (.var 1) (.cons (.var 2) .nil)))) .nil))⟩
def d14 : FD := ⟨"how", 3, ["board", "stands", "quiet", "who", "stand"], [], (.cons (.asg 3 (.call 10 (.cons (.var 0) (.cons (.sub (.var 1) (.neg (.cst (.int 1)))) .nil))) []) (.cons (.iff (.cmp .nis (.var 3) (.cst .non)) (.cons (.ret (.bin .add (.cst (.str "won ")) (.blt .str (.cons (.var 3) .nil)))) .nil) .nil) (.cons (.iff (.cmp .ge (.blt .len (.cons (.cmpr (.var 4) (.one 4) (.it (.var 1)) (.cons (.cmp .eq (.var 4) (.sub (.var 1) (.neg (.cst (.int 1))))) .nil)) .nil)) (.cst (.int 3))) (.cons (.ret (.cst (.str "thrice"))) .nil) .nil) (.cons (.iff (.cmp .ge (.var 2) (.glb 0)) (.cons (.ret (.cst (.str "long"))) .nil) .nil) (.cons (.ret (.cst (.str "on"))) .nil)))))⟩
def d15 : FD := ⟨"played", 3, ["board", "men", "moves", "stands", "quiet", "move", "point"], [3], (.cons (.asgO 3 (.lst (.cons (.tup (.cons (.blt .tup (.cons (.cmpr (.cst .non) (.one 6) (.r1 (.sub (.var 0) (.cst (.int 0)))) .nil) .nil)) (.cons (.tup (.cons (.var 1) (.cons (.var 1) .nil))) (.cons (.cst (.int 0)) .nil)))) .nil)) []) (.cons (.asg 4 (.cst (.int 0)) []) (.cons (.for_ (.one 5) (.it (.var 2)) (.cons (.iff (.cmp .ne (.call 14 (.cons (.var 0) (.cons (.var 3) (.cons (.var 4) .nil)))) (.cst (.str "on"))) (.cons (.rse 0) .nil) .nil) (.cons (.app 3 (.call 13 (.cons (.var 0) (.cons (.sub (.var 3) (.neg (.cst (.int 1)))) (.cons (.var 5) .nil)))) [3]) (.cons (.asg 4 (.bin .add (.var 4) (.cst (.int 1))) []) (.cons (.iff (.bop false (.cons (.cmp .lt (.sub (.var 5) (.cst (.int 0))) (.cst (.int 0))) (.cons (.cmp .ge (.sub (.var 5) (.cst (.int 2))) (.cst (.int 0))) .nil))) (.cons (.asg 4 (.cst (.int 0)) []) .nil) .nil) .nil)))) [5] []) (.cons (.ret (.tup (.cons (.blt .tup (.cons (.var 3) .nil)) (.cons (.call 14 (.cons (.var 0) (.cons (.var 3) (.cons (.var 4) .nil)))) .nil)))) .nil))))⟩
def d16 : FD := ⟨"game", 3, ["board", "men", "moves", "stands", "word"], [], (.cons (.asgT [3, 4] (.call 15 (.cons (.var 0) (.cons (.var 1) (.cons (.var 2) .nil)))) []) (.cons (.ret (.tup (.cons (.sub (.var 3) (.neg (.cst (.int 1)))) (.cons (.var 4) .nil)))) .nil))⟩
def d17 : FD := ⟨"stands_of", 3, ["board", "men", "moves"], [], (.cons (.ret (.sub (.call 15 (.cons (.var 0) (.cons (.var 1) (.cons (.var 2) .nil)))) (.cst (.int 0)))) .nil)⟩
def d18 : FD := ⟨"written", 1, ["stand", "men", "left", "turn", "row", "man"], [], (.cons (.asgT [1, 2, 3] (.var 0) []) (.cons (.asg 4 (.mth .join (.cst (.str "")) (.cons (.cmpr (.sub (.glb 1) (.var 5)) (.one 5) (.it (.var 1)) .nil) .nil)) []) (.cons (.ret (.bin .add (.bin .add (.bin .add (.bin .add (.bin .add (.bin .add (.var 4) (.cst (.str " "))) (.blt .str (.cons (.sub (.var 2) (.cst (.int 0))) .nil))) (.cst (.str " "))) (.blt .str (.cons (.sub (.var 2) (.cst (.int 1))) .nil))) (.cst (.str " "))) (.sub (.glb 1) (.var 3)))) .nil)))⟩
def d19 : FD := ⟨"read", 2, ["board", "text", "words", "found", "sign", "word"], [], (.cons (.asg 2 (.mth .split (.var 1) (.cons (.cst (.str " ")) .nil)) []) (.cons (.iff (.bop false (.cons (.cmp .ne (.blt .len (.cons (.var 2) .nil)) (.cst (.int 4))) (.cons (.nt (.blt .all (.cons (.cmpr (.cmp .inn (.var 4) (.glb 2)) (.one 4) (.it (.sub (.var 2) (.cst (.int 0)))) .nil) .nil))) (.cons (.cmp .nin (.sub (.var 2) (.cst (.int 3))) (.tup (.cons (.cst (.str "x")) (.cons (.cst (.str "o")) .nil)))) .nil)))) (.cons (.rse 1) .nil) .nil) (.cons (.iff (.nt (.blt .all (.cons (.cmpr (.bop true (.cons (.cmp .eq (.blt .len (.cons (.var 5) .nil)) (.cst (.int 1))) (.cons (.cmp .inn (.var 5) (.cst (.str "0123456789"))) .nil))) (.one 5) (.it (.slc (.var 2) (.cons (.cst (.int 1)) .nil) (.cons (.cst (.int 3)) .nil))) .nil) .nil))) (.cons (.rse 1) .nil) .nil) (.cons (.asg 3 (.tup (.cons (.blt .tup (.cons (.cmpr (.sub (.glb 2) (.var 4)) (.one 4) (.it (.sub (.var 2) (.cst (.int 0)))) .nil) .nil)) (.cons (.tup (.cons (.blt .int (.cons (.sub (.var 2) (.cst (.int 1))) .nil)) (.cons (.blt .int (.cons (.sub (.var 2) (.cst (.int 2))) .nil)) .nil))) (.cons (.sub (.glb 2) (.sub (.var 2) (.cst (.int 3)))) .nil)))) []) (.cons (.iff (.nt (.call 1 (.cons (.var 0) (.cons (.var 3) .nil)))) (.cons (.rse 1) .nil) .nil) (.cons (.ret (.var 3)) .nil))))))⟩
def d20 : FD := ⟨"told", 1, ["move", "begin", "goal", "taken", "text"], [], (.cons (.asgT [1, 2, 3] (.var 0) []) (.cons (.asg 4 (.bin .add (.cst (.str "lay ")) (.blt .str (.cons (.var 2) .nil))) []) (.cons (.iff (.cmp .ge (.var 1) (.cst (.int 0))) (.cons (.asg 4 (.bin .add (.bin .add (.bin .add (.cst (.str "lead ")) (.blt .str (.cons (.var 1) .nil))) (.cst (.str " "))) (.blt .str (.cons (.var 2) .nil))) []) .nil) .nil) (.cons (.iff (.cmp .ge (.var 3) (.cst (.int 0))) (.cons (.asg 4 (.bin .add (.bin .add (.var 4) (.cst (.str " take "))) (.blt .str (.cons (.var 3) .nil))) []) .nil) .nil) (.cons (.ret (.var 4)) .nil)))))⟩
def d21 : FD := ⟨"point_of", 1, ["word", "sign"], [], (.cons (.iff (.bop false (.cons (.nt (.chn .le .le (.cst (.int 1)) (.blt .len (.cons (.var 0) .nil)) (.cst (.int 2)))) (.cons (.nt (.blt .all (.cons (.cmpr (.cmp .inn (.var 1) (.cst (.str "0123456789"))) (.one 1) (.it (.var 0)) .nil) .nil))) (.cons (.cmp .ne (.blt .str (.cons (.blt .int (.cons (.var 0) .nil)) .nil)) (.var 0)) .nil)))) (.cons (.rse 1) .nil) .nil) (.cons (.iff (.cmp .gt (.blt .int (.cons (.var 0) .nil)) (.cst (.int 23))) (.cons (.rse 1) .nil) .nil) (.cons (.ret (.blt .int (.cons (.var 0) .nil))) .nil)))⟩
def d22 : FD := ⟨"heard", 1, ["text", "ahead", "sign", "behind", "taken", "words"], [], (.cons (.asgT [1, 2, 3] (.mth .part (.var 0) (.cons (.cst (.str " take ")) .nil)) []) (.cons (.asg 4 (.neg (.cst (.int 1))) []) (.cons (.iff (.cmp .ne (.var 2) (.cst (.str ""))) (.cons (.asg 4 (.call 21 (.cons (.var 3) .nil)) []) .nil) .nil) (.cons (.asg 5 (.mth .split (.var 1) (.cons (.cst (.str " ")) .nil)) []) (.cons (.iff (.bop true (.cons (.cmp .eq (.sub (.var 5) (.cst (.int 0))) (.cst (.str "lay"))) (.cons (.cmp .eq (.blt .len (.cons (.var 5) .nil)) (.cst (.int 2))) .nil))) (.cons (.ret (.tup (.cons (.neg (.cst (.int 1))) (.cons (.call 21 (.cons (.sub (.var 5) (.cst (.int 1))) .nil)) (.cons (.var 4) .nil))))) .nil) .nil) (.cons (.iff (.bop false (.cons (.cmp .ne (.sub (.var 5) (.cst (.int 0))) (.cst (.str "lead"))) (.cons (.cmp .ne (.blt .len (.cons (.var 5) .nil)) (.cst (.int 3))) .nil))) (.cons (.rse 1) .nil) .nil) (.cons (.ret (.tup (.cons (.call 21 (.cons (.sub (.var 5) (.cst (.int 1))) .nil)) (.cons (.call 21 (.cons (.sub (.var 5) (.cst (.int 2))) .nil)) (.cons (.var 4) .nil))))) .nil)))))))⟩
def d23 : FD := ⟨"is_kept", 3, ["joined", "places", "ahead", "last", "one", "p"], [], (.cons (.asg 3 (.bin .sub (.blt .len (.cons (.var 2) .nil)) (.cst (.int 1))) []) (.cons (.for_ (.one 4) (.it (.var 0)) (.cons (.iff (.bop true (.cons (.cmp .eq (.blt .mx1 (.cons (.var 4) .nil)) (.var 3)) (.cons (.cmp .nin (.blt .tup (.cons (.blt .srt (.cons (.cmpr (.sub (.var 2) (.var 5)) (.one 5) (.it (.var 4)) .nil) .nil)) .nil)) (.var 1)) .nil))) (.cons (.ret (.cst (.bl false))) .nil) .nil) .nil) [4] []) (.cons (.ret (.cst (.bl true))) .nil)))⟩
def d24 : FD := ⟨"turns", 1, ["board", "many", "ties", "rows", "tie_places", "row_places", "found", "point", "more", "ahead", "goal", "new", "tie", "row"], [8], (.cons (.asgT [1, 2, 3] (.var 0) []) (.cons (.asg 4 (.blt .dic (.cons (.cmpr (.tup (.cons (.var 12) (.cons (.cst (.bl true)) .nil))) (.one 12) (.it (.var 2)) .nil) .nil)) []) (.cons (.asg 5 (.blt .dic (.cons (.cmpr (.tup (.cons (.var 13) (.cons (.cst (.bl true)) .nil))) (.one 13) (.it (.var 3)) .nil) .nil)) []) (.cons (.asg 6 (.lst (.cons (.tup .nil) .nil)) []) (.cons (.for_ (.one 7) (.r1 (.var 1)) (.cons (.asgO 8 (.lst .nil) []) (.cons (.for_ (.one 9) (.it (.var 6)) (.cons (.for_ (.one 10) (.r1 (.var 1)) (.cons (.asg 11 (.bin .add (.var 9) (.tup (.cons (.var 10) .nil))) []) (.cons (.iff (.bop true (.cons (.cmp .nin (.var 10) (.var 9)) (.cons (.call 23 (.cons (.var 2) (.cons (.var 4) (.cons (.var 11) .nil)))) (.cons (.call 23 (.cons (.var 3) (.cons (.var 5) (.cons (.var 11) .nil)))) .nil)))) (.cons (.app 8 (.var 11) []) .nil) .nil) .nil)) [10, 11] []) .nil) [9, 10, 11] []) (.cons (.asg 6 (.var 8) [8]) .nil))) [7, 8, 9, 10, 11] []) (.cons (.ret (.blt .tup (.cons (.var 6) .nil))) .nil))))))⟩
def d25 : FD := ⟨"turned", 2, ["stand", "turn", "men", "point", "man"], [2], (.cons (.asgO 2 (.cmpr (.cst .non) (.one 4) (.it (.sub (.var 0) (.cst (.int 0)))) .nil) []) (.cons (.for_ (.tup [3, 4]) (.enu (.sub (.var 0) (.cst (.int 0)))) (.cons (.setI 2 (.sub (.var 1) (.var 3)) (.var 4) []) .nil) [3, 4] []) (.cons (.ret (.tup (.cons (.blt .tup (.cons (.var 2) .nil)) (.cons (.sub (.var 0) (.cst (.int 1))) (.cons (.sub (.var 0) (.cst (.int 2))) .nil))))) .nil)))⟩
def d26 : FD := ⟨"turned_point", 2, ["point", "turn"], [], (.cons (.iff (.cmp .lt (.var 0) (.cst (.int 0))) (.cons (.ret (.neg (.cst (.int 1)))) .nil) .nil) (.cons (.ret (.sub (.var 1) (.var 0))) .nil))⟩
def d27 : FD := ⟨"turned_move", 2, ["move", "turn", "point"], [], (.cons (.ret (.blt .tup (.cons (.cmpr (.call 26 (.cons (.var 2) (.cons (.var 1) .nil))) (.one 2) (.it (.var 0)) .nil) .nil))) .nil)⟩
def d28 : FD := ⟨"alike", 3, ["board", "one", "other", "turn"], [], (.cons (.ret (.blt .any (.cons (.cmpr (.cmp .eq (.call 25 (.cons (.var 1) (.cons (.var 3) .nil))) (.var 2)) (.one 3) (.it (.call 24 (.cons (.var 0) .nil))) .nil) .nil))) .nil)⟩
def d29 : FD := ⟨"_law_cell", 2, ["_law_script", "_law_k"], [], (.cons (.iff (.cmp .lt (.var 1) (.blt .len (.cons (.var 0) .nil))) (.cons (.ret (.sub (.var 0) (.var 1))) .nil) .nil) (.cons (.ret (.cst (.int 0))) .nil))⟩
def d30 : FD := ⟨"_law_mix", 3, ["_law_cell_here", "_law_prime", "_law_many"], [], (.cons (.ret (.bin .mod (.bin .mod (.bin .mul (.var 0) (.cst (.int 48271))) (.var 1)) (.var 2))) .nil)⟩
def d31 : FD := ⟨"_law_same", 2, ["_law_found", "_law_due", "_law_one", "_law_other"], [], (.cons (.iff (.isi (.var 1) .tup) (.cons (.iff (.bop false (.cons (.nt (.isi (.var 0) .tup)) (.cons (.cmp .ne (.blt .len (.cons (.var 0) .nil)) (.blt .len (.cons (.var 1) .nil))) .nil))) (.cons (.ret (.cst (.bl false))) .nil) .nil) (.cons (.ret (.blt .all (.cons (.cmpr (.call 31 (.cons (.var 2) (.cons (.var 3) .nil))) (.tup [2, 3]) (.zip (.var 0) (.var 1)) .nil) .nil))) .nil)) .nil) (.cons (.iff (.cmp .is (.var 1) (.cst .non)) (.cons (.ret (.cmp .is (.var 0) (.cst .non))) .nil) .nil) (.cons (.iff (.bop false (.cons (.isi (.var 1) .bool) (.cons (.isi (.var 0) .bool) .nil))) (.cons (.ret (.bop true (.cons (.isi (.var 1) .bool) (.cons (.isi (.var 0) .bool) (.cons (.cmp .eq (.var 0) (.var 1)) .nil))))) .nil) .nil) (.cons (.ret (.bop true (.cons (.isis (.var 0)) (.cons (.cmp .eq (.var 0) (.var 1)) .nil)))) .nil))))⟩
def d32 : FD := ⟨"_law_ring_board", 1, ["_law_many", "_law_ties", "_law_rows", "_law_k", "_law_points", "_law_at"], [], (.cons (.asg 1 (.lst .nil) []) (.cons (.asg 2 (.lst .nil) []) (.cons (.for_ (.one 3) (.r1 (.var 0)) (.cons (.asg 4 (.bin .add (.cmpr (.bin .add (.bin .mul (.cst (.int 8)) (.var 3)) (.var 5)) (.one 5) (.r1 (.cst (.int 8))) .nil) (.lst (.cons (.bin .mul (.cst (.int 8)) (.var 3)) .nil))) []) (.cons (.asg 1 (.bin .add (.var 1) (.cmpr (.blt .tup (.cons (.blt .srt (.cons (.slc (.var 4) (.cons (.var 5) .nil) (.cons (.bin .add (.var 5) (.cst (.int 2))) .nil)) .nil)) .nil)) (.one 5) (.r1 (.cst (.int 8))) .nil)) []) (.cons (.asg 2 (.bin .add (.var 2) (.cmpr (.blt .tup (.cons (.blt .srt (.cons (.slc (.var 4) (.cons (.var 5) .nil) (.cons (.bin .add (.var 5) (.cst (.int 3))) .nil)) .nil)) .nil)) (.one 5) (.it (.tup (.cons (.cst (.int 0)) (.cons (.cst (.int 2)) (.cons (.cst (.int 4)) (.cons (.cst (.int 6)) .nil)))))) .nil)) []) (.cons (.iff (.cmp .gt (.var 3) (.cst (.int 0))) (.cons (.asg 1 (.bin .add (.var 1) (.cmpr (.tup (.cons (.bin .sub (.sub (.var 4) (.var 5)) (.cst (.int 8))) (.cons (.sub (.var 4) (.var 5)) .nil))) (.one 5) (.it (.tup (.cons (.cst (.int 1)) (.cons (.cst (.int 3)) (.cons (.cst (.int 5)) (.cons (.cst (.int 7)) .nil)))))) .nil)) []) .nil) .nil) .nil)))) [3, 4] []) (.cons (.iff (.cmp .eq (.var 0) (.cst (.int 3))) (.cons (.asg 2 (.bin .add (.var 2) (.cmpr (.tup (.cons (.var 5) (.cons (.bin .add (.var 5) (.cst (.int 8))) (.cons (.bin .add (.var 5) (.cst (.int 16))) .nil)))) (.one 5) (.it (.tup (.cons (.cst (.int 1)) (.cons (.cst (.int 3)) (.cons (.cst (.int 5)) (.cons (.cst (.int 7)) .nil)))))) .nil)) []) .nil) .nil) (.cons (.ret (.tup (.cons (.bin .mul (.cst (.int 8)) (.var 0)) (.cons (.blt .tup (.cons (.blt .srt (.cons (.var 1) .nil)) .nil)) (.cons (.blt .tup (.cons (.blt .srt (.cons (.var 2) .nil)) .nil)) .nil))))) .nil)))))⟩
def d33 : FD := ⟨"_law_grid_board", 0, ["_law_ties", "_law_one", "_law_other", "_law_rows"], [0], (.cons (.asgO 0 (.lst .nil) []) (.cons (.for_ (.one 1) (.r1 (.cst (.int 9))) (.cons (.for_ (.one 2) (.r2 (.bin .add (.var 1) (.cst (.int 1))) (.cst (.int 9))) (.cons (.iff (.bop false (.cons (.cmp .eq (.bin .sub (.var 2) (.var 1)) (.cst (.int 3))) (.cons (.bop true (.cons (.cmp .eq (.bin .sub (.var 2) (.var 1)) (.cst (.int 1))) (.cons (.cmp .gt (.bin .mod (.var 2) (.cst (.int 3))) (.cst (.int 0))) .nil))) .nil))) (.cons (.app 0 (.tup (.cons (.var 1) (.cons (.var 2) .nil))) []) .nil) .nil) .nil) [2] []) .nil) [1, 2] []) (.cons (.asg 3 (.tup (.cons (.tup (.cons (.cst (.int 0)) (.cons (.cst (.int 1)) (.cons (.cst (.int 2)) .nil)))) (.cons (.tup (.cons (.cst (.int 0)) (.cons (.cst (.int 3)) (.cons (.cst (.int 6)) .nil)))) (.cons (.tup (.cons (.cst (.int 1)) (.cons (.cst (.int 4)) (.cons (.cst (.int 7)) .nil)))) (.cons (.tup (.cons (.cst (.int 2)) (.cons (.cst (.int 5)) (.cons (.cst (.int 8)) .nil)))) (.cons (.tup (.cons (.cst (.int 3)) (.cons (.cst (.int 4)) (.cons (.cst (.int 5)) .nil)))) (.cons (.tup (.cons (.cst (.int 6)) (.cons (.cst (.int 7)) (.cons (.cst (.int 8)) .nil)))) .nil))))))) []) (.cons (.ret (.tup (.cons (.cst (.int 9)) (.cons (.blt .tup (.cons (.var 0) .nil)) (.cons (.var 3) .nil))))) .nil))))⟩
def d34 : FD := ⟨"_law_rows_of", 3, ["_law_board", "_law_men", "_law_who", "_law_row", "_law_p"], [], (.cons (.ret (.cmpr (.var 3) (.one 3) (.it (.sub (.var 0) (.cst (.int 2)))) (.cons (.cmp .eq (.cmpr (.sub (.var 1) (.var 4)) (.one 4) (.it (.var 3)) .nil) (.lst (.cons (.var 2) (.cons (.var 2) (.cons (.var 2) .nil))))) .nil))) .nil)⟩
def d35 : FD := ⟨"_law_steps", 2, ["_law_board", "_law_stand", "_law_men", "_law_left", "_law_turn", "_law_empty", "_law_mine", "_law_found", "_law_begin_here", "_law_goal", "_law_p"], [7], (.cons (.asgT [2, 3, 4] (.var 1) []) (.cons (.asg 5 (.cmpr (.var 10) (.one 10) (.r1 (.sub (.var 0) (.cst (.int 0)))) (.cons (.cmp .is (.sub (.var 2) (.var 10)) (.cst .non)) .nil)) []) (.cons (.iff (.cmp .gt (.sub (.var 3) (.var 4)) (.cst (.int 0))) (.cons (.ret (.cmpr (.tup (.cons (.neg (.cst (.int 1))) (.cons (.var 9) .nil))) (.one 9) (.it (.var 5)) .nil)) .nil) .nil) (.cons (.asg 6 (.cmpr (.var 10) (.one 10) (.r1 (.sub (.var 0) (.cst (.int 0)))) (.cons (.cmp .eq (.sub (.var 2) (.var 10)) (.var 4)) .nil)) []) (.cons (.asgO 7 (.lst .nil) []) (.cons (.for_ (.one 8) (.it (.var 6)) (.cons (.for_ (.one 9) (.it (.var 5)) (.cons (.iff (.bop false (.cons (.cmp .lt (.blt .len (.cons (.var 6) .nil)) (.cst (.int 4))) (.cons (.cmp .inn (.tup (.cons (.blt .mn2 (.cons (.var 8) (.cons (.var 9) .nil))) (.cons (.blt .mx2 (.cons (.var 8) (.cons (.var 9) .nil))) .nil))) (.sub (.var 0) (.cst (.int 1)))) .nil))) (.cons (.app 7 (.tup (.cons (.var 8) (.cons (.var 9) .nil))) []) .nil) .nil) .nil) [9] []) .nil) [8, 9] []) (.cons (.ret (.var 7)) .nil)))))))⟩
def d36 : FD := ⟨"_law_moves", 2, ["_law_board", "_law_stand", "_law_men", "_law_left", "_law_turn", "_law_found", "_law_begin_here", "_law_goal", "_law_new", "_law_taken", "_law_held", "_law_row", "_law_other", "_law_free", "_law_p", "_law_man", "_law_one"], [5, 8, 10], (.cons (.asgT [2, 3, 4] (.var 1) []) (.cons (.iff (.cmp .nis (.call 37 (.cons (.var 0) (.cons (.var 1) .nil))) (.cst .non)) (.cons (.ret (.tup .nil)) .nil) .nil) (.cons (.asgO 5 (.lst .nil) []) (.cons (.for_ (.tup [6, 7]) (.it (.call 35 (.cons (.var 0) (.cons (.var 1) .nil)))) (.cons (.asgO 8 (.cmpr (.ife (.cmp .eq (.var 14) (.var 6)) (.cst .non) (.var 15)) (.tup [14, 15]) (.enu (.var 2)) .nil) []) (.cons (.setI 8 (.var 7) (.var 4) []) (.cons (.asg 9 (.lst (.cons (.neg (.cst (.int 1))) .nil)) []) (.cons (.iff (.cmpr (.var 11) (.one 11) (.it (.call 34 (.cons (.var 0) (.cons (.var 8) (.cons (.var 4) .nil))))) (.cons (.cmp .inn (.var 7) (.var 11)) .nil)) (.cons (.asgO 10 (.lst .nil) []) (.cons (.for_ (.one 11) (.it (.call 34 (.cons (.var 0) (.cons (.var 8) (.cons (.bin .sub (.cst (.int 1)) (.var 4)) .nil))))) (.cons (.ext 10 (.var 11) []) .nil) [11] [8]) (.cons (.asgF 12 (.cmpr (.var 14) (.one 14) (.r1 (.sub (.var 0) (.cst (.int 0)))) (.cons (.cmp .eq (.sub (.var 8) (.var 14)) (.bin .sub (.cst (.int 1)) (.var 4))) .nil)) [8]) (.cons (.asgF 13 (.cmpr (.var 14) (.one 14) (.it (.var 12)) (.cons (.cmp .nin (.var 14) (.var 10)) .nil)) [10]) (.cons (.iff (.var 13) (.cons (.asg 9 (.var 13) []) .nil) (.cons (.iff (.var 12) (.cons (.asg 9 (.var 12) []) .nil) .nil) .nil)) .nil))))) .nil) (.cons (.ext 5 (.cmpr (.tup (.cons (.var 6) (.cons (.var 7) (.cons (.var 16) .nil)))) (.one 16) (.it (.var 9)) .nil) []) .nil))))) [6, 7, 8, 9, 10, 11, 12, 13] []) (.cons (.ret (.blt .tup (.cons (.blt .srt (.cons (.var 5) .nil)) .nil))) .nil)))))⟩
def d37 : FD := ⟨"_law_winner", 2, ["_law_board", "_law_stand", "_law_men", "_law_left", "_law_turn"], [], (.cons (.asgT [2, 3, 4] (.var 1) []) (.cons (.iff (.bop false (.cons (.cmp .lt (.bin .add (.mth .count (.var 2) (.cons (.var 4) .nil)) (.sub (.var 3) (.var 4))) (.cst (.int 3))) (.cons (.nt (.call 35 (.cons (.var 0) (.cons (.var 1) .nil)))) .nil))) (.cons (.ret (.bin .sub (.cst (.int 1)) (.var 4))) .nil) .nil) (.cons (.ret (.cst .non)) .nil)))⟩
def d38 : FD := ⟨"_law_after", 2, ["_law_stand", "_law_move", "_law_men", "_law_left", "_law_turn", "_law_begin_here", "_law_goal", "_law_taken", "_law_new", "_law_p", "_law_man"], [8], (.cons (.asgT [2, 3, 4] (.var 0) []) (.cons (.asgT [5, 6, 7] (.var 1) []) (.cons (.asgO 8 (.cmpr (.ife (.cmp .inn (.var 9) (.tup (.cons (.var 5) (.cons (.var 7) .nil)))) (.cst .non) (.var 10)) (.tup [9, 10]) (.enu (.var 2)) .nil) []) (.cons (.setI 8 (.var 6) (.var 4) []) (.cons (.iff (.cmp .lt (.var 5) (.cst (.int 0))) (.cons (.asg 3 (.tup (.cons (.bin .sub (.sub (.var 3) (.cst (.int 0))) (.blt .int (.cons (.cmp .eq (.var 4) (.cst (.int 0))) .nil))) (.cons (.bin .sub (.sub (.var 3) (.cst (.int 1))) (.blt .int (.cons (.cmp .eq (.var 4) (.cst (.int 1))) .nil))) .nil))) []) .nil) .nil) (.cons (.ret (.tup (.cons (.blt .tup (.cons (.var 8) .nil)) (.cons (.var 3) (.cons (.bin .sub (.cst (.int 1)) (.var 4)) .nil))))) .nil))))))⟩
def d39 : FD := ⟨"_law_begin", 2, ["_law_board", "_law_men", "_law_point"], [], (.cons (.ret (.tup (.cons (.blt .tup (.cons (.cmpr (.cst .non) (.one 2) (.r1 (.sub (.var 0) (.cst (.int 0)))) .nil) .nil)) (.cons (.tup (.cons (.var 1) (.cons (.var 1) .nil))) (.cons (.cst (.int 0)) .nil))))) .nil)⟩
def d40 : FD := ⟨"_law_how", 3, ["_law_board", "_law_stands", "_law_walk", "_law_who", "_law_quiet"], [], (.cons (.asg 3 (.call 37 (.cons (.var 0) (.cons (.sub (.var 1) (.neg (.cst (.int 1)))) .nil))) []) (.cons (.iff (.cmp .nis (.var 3) (.cst .non)) (.cons (.ret (.bin .add (.cst (.str "won ")) (.blt .str (.cons (.var 3) .nil)))) .nil) .nil) (.cons (.iff (.cmp .gt (.mth .count (.var 1) (.cons (.sub (.var 1) (.neg (.cst (.int 1)))) .nil)) (.cst (.int 2))) (.cons (.ret (.cst (.str "thrice"))) .nil) .nil) (.cons (.asg 4 (.cst (.int 0)) []) (.cons (.whl (.bop true (.cons (.cmp .lt (.var 4) (.blt .len (.cons (.var 2) .nil))) (.cons (.cmp .ge (.sub (.sub (.var 2) (.bin .sub (.neg (.cst (.int 1))) (.var 4))) (.cst (.int 0))) (.cst (.int 0))) (.cons (.cmp .lt (.sub (.sub (.var 2) (.bin .sub (.neg (.cst (.int 1))) (.var 4))) (.cst (.int 2))) (.cst (.int 0))) .nil)))) (.cons (.asg 4 (.bin .add (.var 4) (.cst (.int 1))) []) .nil) []) (.cons (.iff (.cmp .ge (.var 4) (.cst (.int 40))) (.cons (.ret (.cst (.str "long"))) .nil) .nil) (.cons (.ret (.cst (.str "on"))) .nil)))))))⟩
def d41 : FD := ⟨"_law_drawn_game", 5, ["_law_board", "_law_men", "_law_cell_here", "_law_most", "_law_to_and_fro", "_law_stands", "_law_walk", "_law_some", "_law_quiet", "_law_move", "_law_back"], [5, 6], (.cons (.asgO 5 (.lst (.cons (.call 39 (.cons (.var 0) (.cons (.var 1) .nil))) .nil)) []) (.cons (.asgO 6 (.lst .nil) []) (.cons (.whl (.bop true (.cons (.cmp .lt (.blt .len (.cons (.var 6) .nil)) (.var 3)) (.cons (.cmp .eq (.call 40 (.cons (.var 0) (.cons (.var 5) (.cons (.var 6) .nil)))) (.cst (.str "on"))) .nil))) (.cons (.asg 7 (.call 36 (.cons (.var 0) (.cons (.sub (.var 5) (.neg (.cst (.int 1)))) .nil))) [5]) (.cons (.asg 8 (.cmpr (.var 9) (.one 9) (.it (.var 7)) (.cons (.cmp .lt (.sub (.var 9) (.cst (.int 2))) (.cst (.int 0))) .nil)) []) (.cons (.iff (.bop true (.cons (.var 4) (.cons (.var 8) .nil))) (.cons (.asg 7 (.var 8) []) .nil) .nil) (.cons (.asg 9 (.sub (.var 7) (.call 30 (.cons (.bin .add (.var 2) (.bin .mul (.cst (.int 13)) (.blt .len (.cons (.var 6) .nil)))) (.cons (.cst (.int 9697)) (.cons (.blt .len (.cons (.var 7) .nil)) .nil))))) [6]) (.cons (.iff (.bop true (.cons (.var 4) (.cons (.cmp .gt (.blt .len (.cons (.var 6) .nil)) (.cst (.int 1))) (.cons (.cmp .ge (.sub (.sub (.var 6) (.neg (.cst (.int 2)))) (.cst (.int 0))) (.cst (.int 0))) .nil)))) (.cons (.asg 10 (.tup (.cons (.sub (.sub (.var 6) (.neg (.cst (.int 2)))) (.cst (.int 1))) (.cons (.sub (.sub (.var 6) (.neg (.cst (.int 2)))) (.cst (.int 0))) (.cons (.neg (.cst (.int 1))) .nil)))) [6]) (.cons (.iff (.cmp .inn (.var 10) (.var 7)) (.cons (.asg 9 (.var 10) []) .nil) .nil) .nil)) .nil) (.cons (.app 6 (.var 9) []) (.cons (.app 5 (.call 38 (.cons (.sub (.var 5) (.neg (.cst (.int 1)))) (.cons (.var 9) .nil))) [5]) .nil))))))) [7, 8, 9, 10]) (.cons (.ret (.tup (.cons (.var 5) (.cons (.var 6) .nil)))) .nil))))⟩
def d42 : FD := ⟨"law", 1, ["_law_script", "_law_k", "_law_board", "_law_cell_here", "_law_men", "_law_stands", "_law_walk", "_law_every", "_law_turn", "_law_new", "_law_here", "_law_word", "_law_taken", "_law_who", "_law_move", "_law_stand", "_law_at"], [], (.cons (.for_ (.tup [1, 2]) (.enu (.tup (.cons (.call 32 (.cons (.cst (.int 1)) .nil)) (.cons (.call 32 (.cons (.cst (.int 2)) .nil)) (.cons (.call 33 .nil) .nil))))) (.cons (.asg 3 (.bin .add (.call 29 (.cons (.var 0) (.cons (.var 1) .nil))) (.bin .mul (.cst (.int 3)) (.var 1))) []) (.cons (.asg 4 (.bin .add (.cst (.int 3)) (.call 30 (.cons (.bin .add (.call 29 (.cons (.var 0) (.cons (.cst (.int 3)) .nil))) (.var 1)) (.cons (.cst (.int 9689)) (.cons (.cst (.int 3)) .nil))))) []) (.cons (.asgT [5, 6] (.call 41 (.cons (.var 2) (.cons (.var 4) (.cons (.bin .add (.call 29 (.cons (.var 0) (.cons (.cst (.int 4)) .nil))) (.bin .mul (.cst (.int 5)) (.var 1))) (.cons (.cst (.int 40)) (.cons (.cmp .eq (.bin .mod (.var 3) (.cst (.int 2))) (.cst (.int 0))) .nil)))))) []) (.cons (.asg 7 (.call 24 (.cons (.var 2) .nil)) []) (.cons (.asg 8 (.sub (.var 7) (.call 30 (.cons (.var 3) (.cons (.cst (.int 9649)) (.cons (.blt .len (.cons (.var 7) .nil)) .nil))))) []) (.cons (.asg 9 (.blt .tup (.cons (.cmpr (.call 27 (.cons (.call 22 (.cons (.call 20 (.cons (.var 14) .nil)) .nil)) (.cons (.var 8) .nil))) (.one 14) (.it (.var 6)) .nil) .nil)) []) (.cons (.asg 10 (.call 17 (.cons (.var 2) (.cons (.var 4) (.cons (.var 9) .nil)))) []) (.cons (.iff (.nt (.call 31 (.cons (.var 10) (.cons (.blt .tup (.cons (.cmpr (.call 25 (.cons (.var 15) (.cons (.var 8) .nil))) (.one 15) (.it (.var 5)) .nil) .nil)) .nil)))) (.cons (.ret (.cst (.bl false))) .nil) .nil) (.cons (.asg 11 (.sub (.call 16 (.cons (.var 2) (.cons (.var 4) (.cons (.blt .tup (.cons (.var 6) .nil)) .nil)))) (.cst (.int 1))) []) (.cons (.iff (.cmp .ne (.call 16 (.cons (.var 2) (.cons (.var 4) (.cons (.var 9) .nil)))) (.tup (.cons (.sub (.var 10) (.neg (.cst (.int 1)))) (.cons (.var 11) .nil)))) (.cons (.ret (.cst (.bl false))) .nil) .nil) (.cons (.iff (.nt (.call 28 (.cons (.var 2) (.cons (.sub (.var 10) (.neg (.cst (.int 1)))) (.cons (.sub (.var 5) (.neg (.cst (.int 1)))) .nil))))) (.cons (.ret (.cst (.bl false))) .nil) .nil) (.cons (.iff (.blt .any (.cons (.cmpr (.nt (.call 31 (.cons (.call 19 (.cons (.var 2) (.cons (.call 18 (.cons (.var 15) .nil)) .nil))) (.cons (.var 15) .nil)))) (.one 15) (.it (.var 5)) .nil) .nil)) (.cons (.ret (.cst (.bl false))) .nil) .nil) (.cons (.asg 12 (.cmpr (.blt .len (.cons (.cmpr (.cst (.int 1)) (.tup [16, 14]) (.enu (.var 6)) (.cons (.bop true (.cons (.cmp .ge (.sub (.var 14) (.cst (.int 2))) (.cst (.int 0))) (.cons (.cmp .ne (.bin .mod (.var 16) (.cst (.int 2))) (.var 13)) .nil))) .nil)) .nil)) (.one 13) (.it (.tup (.cons (.cst (.int 0)) (.cons (.cst (.int 1)) .nil)))) .nil) []) (.cons (.for_ (.one 13) (.it (.tup (.cons (.cst (.int 0)) (.cons (.cst (.int 1)) .nil)))) (.cons (.iff (.cmp .ne (.bin .add (.mth .count (.sub (.sub (.var 5) (.neg (.cst (.int 1)))) (.cst (.int 0))) (.cons (.var 13) .nil)) (.sub (.sub (.sub (.var 5) (.neg (.cst (.int 1)))) (.cst (.int 1))) (.var 13))) (.bin .sub (.var 4) (.sub (.var 12) (.var 13)))) (.cons (.ret (.cst (.bl false))) .nil) .nil) .nil) [13] []) .nil)))))))))))))) [1, 2, 3, 4, 5, 6, 7, 8, 9, 10, 11, 12, 13] []) (.cons (.ret (.cst (.bl true))) .nil))⟩
def fds : List FD := [d0, d1, d2, d3, d4, d5, d6, d7, d8, d9, d10, d11, d12, d13, d14, d15, d16, d17, d18, d19, d20, d21, d22, d23, d24, d25, d26, d27, d28, d29, d30, d31, d32, d33, d34, d35, d36, d37, d38, d39, d40, d41, d42]
def tabSIGNS : List (D × D) := [(.non, .str "."), (.int 0, .str "x"), (.int 1, .str "o")]
def tabMEN : List (D × D) := [(.str ".", .non), (.str "x", .int 0), (.str "o", .int 1)]
def globD : Nat → Option D := fun g => match g with
  | 0 => some (.int 40)
  | 1 => some (.tab tabSIGNS)
  | 2 => some (.tab tabMEN)
  | _ => none
abbrev C (n : Nat) : Nat → List D → R D := callE (fun f => fds[f]?) globD 100 n
abbrev cl (n : Nat) : Cl := ⟨C n, globD, 100⟩
theorem c0 (n : Nat) (a0 a1 a2 : D) : C (n + 1) 0 [a0, a1, a2] = (execL (cl n) d0.body [.val a0, .val a1, .val a2]).bind outR := rfl
theorem c1 (n : Nat) (a0 a1 : D) : C (n + 1) 1 [a0, a1] = (execL (cl n) d1.body [.val a0, .val a1, .emp, .emp, .emp, .emp, .emp]).bind outR := rfl
theorem c2 (n : Nat) (a0 a1 : D) : C (n + 1) 2 [a0, a1] = (execL (cl n) d2.body [.val a0, .val a1, .emp, .emp]).bind outR := rfl
theorem c3 (n : Nat) (a0 a1 a2 : D) : C (n + 1) 3 [a0, a1, a2] = (execL (cl n) d3.body [.val a0, .val a1, .val a2, .emp, .emp]).bind outR := rfl
theorem c4 (n : Nat) (a0 a1 : D) : C (n + 1) 4 [a0, a1] = (execL (cl n) d4.body [.val a0, .val a1]).bind outR := rfl
theorem c5 (n : Nat) (a0 a1 : D) : C (n + 1) 5 [a0, a1] = (execL (cl n) d5.body [.val a0, .val a1, .emp, .emp, .emp]).bind outR := rfl
theorem c6 (n : Nat) (a0 a1 : D) : C (n + 1) 6 [a0, a1] = (execL (cl n) d6.body [.val a0, .val a1, .emp, .emp, .emp, .emp, .emp, .emp, .emp, .emp, .emp, .emp, .emp]).bind outR := rfl
theorem c7 (n : Nat) (a0 a1 a2 a3 : D) : C (n + 1) 7 [a0, a1, a2, a3] = (execL (cl n) d7.body [.val a0, .val a1, .val a2, .val a3, .emp]).bind outR := rfl
theorem c8 (n : Nat) (a0 a1 a2 a3 : D) : C (n + 1) 8 [a0, a1, a2, a3] = (execL (cl n) d8.body [.val a0, .val a1, .val a2, .val a3, .emp, .emp, .emp, .emp, .emp, .emp]).bind outR := rfl
theorem c9 (n : Nat) (a0 a1 : D) : C (n + 1) 9 [a0, a1] = (execL (cl n) d9.body [.val a0, .val a1, .emp, .emp, .emp, .emp, .emp, .emp, .emp, .emp]).bind outR := rfl
theorem c10 (n : Nat) (a0 a1 : D) : C (n + 1) 10 [a0, a1] = (execL (cl n) d10.body [.val a0, .val a1, .emp]).bind outR := rfl
theorem c11 (n : Nat) (a0 a1 : D) : C (n + 1) 11 [a0, a1] = (execL (cl n) d11.body [.val a0, .val a1]).bind outR := rfl
theorem c12 (n : Nat) (a0 a1 : D) : C (n + 1) 12 [a0, a1] = (execL (cl n) d12.body [.val a0, .val a1, .emp, .emp, .emp, .emp, .emp, .emp, .emp, .emp]).bind outR := rfl
theorem c13 (n : Nat) (a0 a1 a2 : D) : C (n + 1) 13 [a0, a1, a2] = (execL (cl n) d13.body [.val a0, .val a1, .val a2]).bind outR := rfl
theorem c14 (n : Nat) (a0 a1 a2 : D) : C (n + 1) 14 [a0, a1, a2] = (execL (cl n) d14.body [.val a0, .val a1, .val a2, .emp, .emp]).bind outR := rfl
theorem c15 (n : Nat) (a0 a1 a2 : D) : C (n + 1) 15 [a0, a1, a2] = (execL (cl n) d15.body [.val a0, .val a1, .val a2, .emp, .emp, .emp, .emp]).bind outR := rfl
theorem c16 (n : Nat) (a0 a1 a2 : D) : C (n + 1) 16 [a0, a1, a2] = (execL (cl n) d16.body [.val a0, .val a1, .val a2, .emp, .emp]).bind outR := rfl
theorem c17 (n : Nat) (a0 a1 a2 : D) : C (n + 1) 17 [a0, a1, a2] = (execL (cl n) d17.body [.val a0, .val a1, .val a2]).bind outR := rfl
theorem c18 (n : Nat) (a0 : D) : C (n + 1) 18 [a0] = (execL (cl n) d18.body [.val a0, .emp, .emp, .emp, .emp, .emp]).bind outR := rfl
theorem c19 (n : Nat) (a0 a1 : D) : C (n + 1) 19 [a0, a1] = (execL (cl n) d19.body [.val a0, .val a1, .emp, .emp, .emp, .emp]).bind outR := rfl
theorem c20 (n : Nat) (a0 : D) : C (n + 1) 20 [a0] = (execL (cl n) d20.body [.val a0, .emp, .emp, .emp, .emp]).bind outR := rfl
theorem c21 (n : Nat) (a0 : D) : C (n + 1) 21 [a0] = (execL (cl n) d21.body [.val a0, .emp]).bind outR := rfl
theorem c22 (n : Nat) (a0 : D) : C (n + 1) 22 [a0] = (execL (cl n) d22.body [.val a0, .emp, .emp, .emp, .emp, .emp]).bind outR := rfl
theorem c23 (n : Nat) (a0 a1 a2 : D) : C (n + 1) 23 [a0, a1, a2] = (execL (cl n) d23.body [.val a0, .val a1, .val a2, .emp, .emp, .emp]).bind outR := rfl
theorem c24 (n : Nat) (a0 : D) : C (n + 1) 24 [a0] = (execL (cl n) d24.body [.val a0, .emp, .emp, .emp, .emp, .emp, .emp, .emp, .emp, .emp, .emp, .emp, .emp, .emp]).bind outR := rfl
theorem c25 (n : Nat) (a0 a1 : D) : C (n + 1) 25 [a0, a1] = (execL (cl n) d25.body [.val a0, .val a1, .emp, .emp, .emp]).bind outR := rfl
theorem c26 (n : Nat) (a0 a1 : D) : C (n + 1) 26 [a0, a1] = (execL (cl n) d26.body [.val a0, .val a1]).bind outR := rfl
theorem c27 (n : Nat) (a0 a1 : D) : C (n + 1) 27 [a0, a1] = (execL (cl n) d27.body [.val a0, .val a1, .emp]).bind outR := rfl
theorem c28 (n : Nat) (a0 a1 a2 : D) : C (n + 1) 28 [a0, a1, a2] = (execL (cl n) d28.body [.val a0, .val a1, .val a2, .emp]).bind outR := rfl
theorem c29 (n : Nat) (a0 a1 : D) : C (n + 1) 29 [a0, a1] = (execL (cl n) d29.body [.val a0, .val a1]).bind outR := rfl
theorem c30 (n : Nat) (a0 a1 a2 : D) : C (n + 1) 30 [a0, a1, a2] = (execL (cl n) d30.body [.val a0, .val a1, .val a2]).bind outR := rfl
theorem c31 (n : Nat) (a0 a1 : D) : C (n + 1) 31 [a0, a1] = (execL (cl n) d31.body [.val a0, .val a1, .emp, .emp]).bind outR := rfl
theorem c32 (n : Nat) (a0 : D) : C (n + 1) 32 [a0] = (execL (cl n) d32.body [.val a0, .emp, .emp, .emp, .emp, .emp]).bind outR := rfl
theorem c33 (n : Nat) : C (n + 1) 33 [] = (execL (cl n) d33.body [.emp, .emp, .emp, .emp]).bind outR := rfl
theorem c34 (n : Nat) (a0 a1 a2 : D) : C (n + 1) 34 [a0, a1, a2] = (execL (cl n) d34.body [.val a0, .val a1, .val a2, .emp, .emp]).bind outR := rfl
theorem c35 (n : Nat) (a0 a1 : D) : C (n + 1) 35 [a0, a1] = (execL (cl n) d35.body [.val a0, .val a1, .emp, .emp, .emp, .emp, .emp, .emp, .emp, .emp, .emp]).bind outR := rfl
theorem c36 (n : Nat) (a0 a1 : D) : C (n + 1) 36 [a0, a1] = (execL (cl n) d36.body [.val a0, .val a1, .emp, .emp, .emp, .emp, .emp, .emp, .emp, .emp, .emp, .emp, .emp, .emp, .emp, .emp, .emp]).bind outR := rfl
theorem c37 (n : Nat) (a0 a1 : D) : C (n + 1) 37 [a0, a1] = (execL (cl n) d37.body [.val a0, .val a1, .emp, .emp, .emp]).bind outR := rfl
theorem c38 (n : Nat) (a0 a1 : D) : C (n + 1) 38 [a0, a1] = (execL (cl n) d38.body [.val a0, .val a1, .emp, .emp, .emp, .emp, .emp, .emp, .emp, .emp, .emp]).bind outR := rfl
theorem c39 (n : Nat) (a0 a1 : D) : C (n + 1) 39 [a0, a1] = (execL (cl n) d39.body [.val a0, .val a1, .emp]).bind outR := rfl
theorem c40 (n : Nat) (a0 a1 a2 : D) : C (n + 1) 40 [a0, a1, a2] = (execL (cl n) d40.body [.val a0, .val a1, .val a2, .emp, .emp]).bind outR := rfl
theorem c41 (n : Nat) (a0 a1 a2 a3 a4 : D) : C (n + 1) 41 [a0, a1, a2, a3, a4] = (execL (cl n) d41.body [.val a0, .val a1, .val a2, .val a3, .val a4, .emp, .emp, .emp, .emp, .emp, .emp]).bind outR := rfl
theorem c42 (n : Nat) (a0 : D) : C (n + 1) 42 [a0] = (execL (cl n) d42.body [.val a0, .emp, .emp, .emp, .emp, .emp, .emp, .emp, .emp, .emp, .emp, .emp, .emp, .emp, .emp, .emp, .emp]).bind outR := rfl
end K16
/-! P3: plain: men are kept. -/
namespace Ev
theorem filterMap_cong {α β : Type} {f g : α → Option β} : ∀ {xs : List α}, (∀ x ∈ xs, f x = g x) → xs.filterMap f = xs.filterMap g
  | [], _ => rfl
  | x :: xs, h => by
    rw [List.filterMap_cons, List.filterMap_cons, h x List.mem_cons_self, filterMap_cong fun y hy => h y (List.mem_cons_of_mem _ hy)]
theorem countP_set' {α : Type} (q : α → Bool) : ∀ (xs : List α) (i : Nat) (x : α) (h : i < xs.length), ((xs.set i x).countP q : Int) = xs.countP q - (if q xs[i] then 1 else 0) + (if q x then 1 else 0)
  | [], i, x, h => by simp at h
  | y :: ys, 0, x, h => by
    simp only [List.set_cons_zero, List.countP_cons, List.getElem_cons_zero]
    by_cases h1 : q y = true <;> by_cases h2 : q x = true <;> simp [h1, h2] <;> omega
  | y :: ys, i + 1, x, h => by
    have ih := countP_set' q ys i x (by simpa using h)
    simp only [List.set_cons_succ, List.countP_cons, List.getElem_cons_succ]
    by_cases h1 : q y = true <;> simp [h1] <;> omega
theorem cnt_set {ms : List (Option Bool)} {p : Int} {o : Option Bool} (v : Bool) (h : 0 ≤ p ∧ p < ms.length) : ((idxs (isMan v) (ms.set p.toNat o)).length : Int) = (idxs (isMan v) ms).length - (if atM ms p = some v then 1 else 0) + (if o = some v then 1 else 0) := by
  have hp : p.toNat < ms.length := by omega
  rw [idxs_count, idxs_count, countP_set' _ _ _ _ hp]
  have e : atM ms p = ms[p.toNat] := by simp [atM, List.getD_eq_getElem?_getD, hp]
  rw [e]
  simp [isMan]
theorem stepM_as {ms : List (Option Bool)} {b g : Int} {w : Bool} : stepM ms b g w = (if 0 ≤ b then ms.set b.toNat none else ms).set g.toNat (some w) := rfl
theorem cnt_stepM {ms : List (Option Bool)} {b g : Int} {w : Bool} (v : Bool) (hb : b = -1 ∨ (0 ≤ b ∧ b < ms.length ∧ atM ms b = some w)) (hg : 0 ≤ g ∧ g < ms.length) (hn : atM ms g = none) :
    ((idxs (isMan v) (stepM ms b g w)).length : Int) = (idxs (isMan v) ms).length + (if b < 0 ∧ v = w then 1 else 0) := by
  rw [stepM_as]
  rcases hb with rfl | ⟨h1, h2, h3⟩
  · rw [if_neg (by omega), cnt_set v hg, hn]
    by_cases e : w = v
    · subst e; simp
    · have e' : ¬ v = w := fun h => e h.symm
      simp [e, e']
  · have hgb : g ≠ b := fun e => by rw [e, h3] at hn; cases hn
    rw [if_pos h1, cnt_set v (by simpa using hg), cnt_set v ⟨h1, h2⟩, h3, atM_set ⟨h1, h2⟩ hg.1, if_neg hgb, hn, if_neg (show ¬ (b < 0 ∧ v = w) by omega)]
    by_cases e : w = v
    · subst e; simp
    · simp [e]
theorem cnt_after {m l b g t : Int} {ts rs : List (List Int)} {ms : List (Option Bool)} {w : Bool} (hl : (ms.length : Int) = m) (k : MoveOk m ts rs ms l w b g t) (v : Bool) :
    ((idxs (isMan v) (afterM ms b g t w)).length : Int) = (idxs (isMan v) ms).length + (if b < 0 ∧ v = w then 1 else 0) - (if 0 ≤ t ∧ v = !w then 1 else 0) := by
  have hg : 0 ≤ g ∧ g < (ms.length : Int) := by have := k.g0; omega
  have hb : b = -1 ∨ (0 ≤ b ∧ b < ms.length ∧ atM ms b = some w) := by
    rcases k.bb with h | h
    · exact .inl h.2
    · exact .inr ⟨h.2.1, by omega, h.2.2.2⟩
  have hs := cnt_stepM v hb hg k.gn
  have hb' : -1 ≤ b ∧ b < (ms.length : Int) := by rcases hb with h | h <;> omega
  rcases k.tt with rfl | ⟨t1, t2, t3, t4, t5⟩
  · unfold afterM
    rw [if_neg (by omega), hs, if_neg (show ¬ ((0 : Int) ≤ -1 ∧ v = !w) by omega)]; omega
  · unfold afterM
    have ha : atM (stepM ms b g w) t = some (!w) := by rw [atM_stepM hb' hg t1, if_neg t3, if_neg t4, t5]
    rw [if_pos t1, cnt_set v ⟨t1, by rw [stepM_len]; omega⟩, hs, ha]
    by_cases e : v = !w
    · subst e; simp [t1]
    · have e' : ¬ (!w) = v := fun h => e h.symm
      simp [e, e']
theorem lft_less {x a b : Int} {w v : Bool} : lft (lessA x a w) (lessB x b w) v = lft a b v - (if x < 0 ∧ v = w then 1 else 0) := by
  unfold lft lessA lessB
  by_cases h : x < 0 <;> cases w <;> cases v <;> simp [h]
theorem rows_step {m l b g t : Int} {ts rs : List (List Int)} {ms : List (Option Bool)} {w : Bool} (hl : (ms.length : Int) = m) (g3 : Good 3 m rs) (k : MoveOk m ts rs ms l w b g t) : rowsP rs (stepM ms b g w) (!w) = rowsP rs ms (!w) := by
  have hg : 0 ≤ g ∧ g < (ms.length : Int) := by have := k.g0; omega
  have hb' : -1 ≤ b ∧ b < (ms.length : Int) := by rcases k.bb with h | h <;> omega
  unfold rowsP
  refine List.filter_congr fun r hr => ?_
  unfold fullR
  rw [Bool.eq_iff_iff, List.all_eq_true, List.all_eq_true]
  have key : ∀ p ∈ r, (decide ((stepM ms b g w).getD p.toNat none = some (!w)) = decide (ms.getD p.toNat none = some (!w))) := fun p hp => by
    have hr := (g3.el r hr).rng p hp
    have := atM_stepM (w := w) hb' hg hr.1
    unfold atM at this
    rw [this]
    by_cases e : p = g
    · subst e
      have hn := k.gn
      unfold atM at hn
      rw [if_pos rfl, hn]
      cases w <;> simp
    · rw [if_neg e]
      by_cases e2 : p = b
      · subst e2
        rcases k.bb with h | h
        · omega
        · have hn := h.2.2.2
          unfold atM at hn
          rw [if_pos rfl, hn]
          cases w <;> simp
      · rw [if_neg e2]
  exact ⟨fun h p hp => by rw [← key p hp]; exact h p hp, fun h p hp => by rw [key p hp]; exact h p hp⟩
theorem idxs_step {m l b g t : Int} {ts rs : List (List Int)} {ms : List (Option Bool)} {w : Bool} (hl : (ms.length : Int) = m) (k : MoveOk m ts rs ms l w b g t) : idxs (isMan !w) (stepM ms b g w) = idxs (isMan !w) ms := by
  have hg : 0 ≤ g ∧ g < (ms.length : Int) := by have := k.g0; omega
  have hb' : -1 ≤ b ∧ b < (ms.length : Int) := by rcases k.bb with h | h <;> omega
  unfold idxs
  rw [stepM_len]
  refine filterMap_cong fun i hi => ?_
  have := atM_stepM (w := w) hb' hg (x := (i : Int)) (by omega)
  unfold atM at this
  simp only [Int.toNat_natCast] at this
  rw [this]
  by_cases e : (i : Int) = g
  · have hn := k.gn
    rw [← e] at hn
    unfold atM at hn
    simp only [Int.toNat_natCast] at hn
    rw [if_pos e, hn]
    cases w <;> simp [isMan]
  · rw [if_neg e]
    by_cases e2 : (i : Int) = b
    · rcases k.bb with h | h
      · omega
      · have hn := h.2.2.2
        rw [← e2] at hn
        unfold atM at hn
        simp only [Int.toNat_natCast] at hn
        rw [if_pos e2, hn]
        cases w <;> simp [isMan]
    · rw [if_neg e2]
/-- the points that are held by full rows -/
def heldR (rs : List (List Int)) (ms : List (Option Bool)) (v : Bool) : List Int := (List.range ms.length).filterMap fun (i : Nat) => if (rowsP rs ms v).any (inR (i : Int)) then some (i : Int) else none
theorem heldR_mem {rs : List (List Int)} {ms : List (Option Bool)} {v : Bool} {p : Int} : p ∈ heldR rs ms v ↔ 0 ≤ p ∧ p < ms.length ∧ (rowsP rs ms v).any (inR p) = true := by
  unfold heldR
  simp only [List.mem_filterMap, List.mem_range]
  constructor
  · rintro ⟨i, hi, h⟩
    split at h
    · cases h; exact ⟨by omega, by omega, by assumption⟩
    · cases h
  · rintro ⟨h1, h2, h3⟩
    have e : ((p.toNat : Nat) : Int) = p := by omega
    exact ⟨p.toNat, by omega, by rw [e, if_pos h3]⟩
theorem row_man {m : Int} {rs : List (List Int)} {ms : List (Option Bool)} {v : Bool} {p : Int} (g3 : Good 3 m rs) (h : (rowsP rs ms v).any (inR p) = true) : 0 ≤ p ∧ p ≤ m - 1 ∧ atM ms p = some v := by
  rw [List.any_eq_true] at h
  obtain ⟨r, hr, hp⟩ := h
  unfold rowsP at hr
  obtain ⟨h1, h2⟩ := List.mem_filter.mp hr
  have hp : p ∈ r := by simpa [inR] using hp
  have hrg := (g3.el r h1).rng p hp
  unfold fullR at h2
  rw [List.all_eq_true] at h2
  exact ⟨hrg.1, hrg.2, by simpa [atM] using h2 p hp⟩
/-- what is taken stood in no full row, unless all did -/
theorem tak_right {m l b g t : Int} {ts rs : List (List Int)} {ms : List (Option Bool)} {w : Bool} (hl : (ms.length : Int) = m) (g3 : Good 3 m rs) (k : MoveOk m ts rs ms l w b g t) (ht : 0 ≤ t) :
    ¬ t ∈ heldR rs ms (!w) ∨ (heldR rs ms (!w)).length = (idxs (isMan !w) ms).length := by
  have h := k.tk
  have er := rows_step hl g3 k
  have ei := idxs_step hl k
  unfold takP freeP at h
  rw [er, ei] at h
  split at h
  · split at h
    · rename_i he
      right
      have he : ((idxs (isMan !w) ms).filter fun p => !((rowsP rs ms !w).any (inR p))) = [] := by simpa using he
      rw [List.filter_eq_nil_iff] at he
      have : heldR rs ms (!w) = idxs (isMan !w) ms := by
        unfold heldR idxs
        refine filterMap_cong fun i hi => ?_
        have hi := List.mem_range.mp hi
        by_cases hm : ms.getD i none = some (!w)
        · have h1 := he (i : Int) (idxs_mem.mpr ⟨by omega, by omega, by unfold isMan; rw [atM_nat]; exact decide_eq_true hm⟩)
          have h2 : (rowsP rs ms !w).any (inR (i : Int)) = true := by simpa using h1
          rw [if_pos h2, if_pos (by unfold isMan; exact decide_eq_true hm)]
        · have h2 : ¬ (rowsP rs ms !w).any (inR (i : Int)) = true := fun hq => hm (by
            have := (row_man g3 hq).2.2
            rwa [atM_nat] at this)
          rw [if_neg h2, if_neg (by unfold isMan; rw [decide_eq_true_eq]; exact hm)]
      rw [this]
    · left
      intro hq
      have := (List.mem_filter.mp h).2
      have hq := (heldR_mem.mp hq).2.2
      rw [hq] at this
      simp at this
  · simp at h; omega
theorem tak_ne {rs : List (List Int)} {ms : List (Option Bool)} {g : Int} {w : Bool} : takP rs ms g w ≠ [] := by
  unfold takP
  split
  · split
    · split
      · simp
      · rename_i h; simpa using h
    · rename_i h; simpa using h
  · simp
/-- no moves just where somebody has won -/
theorem moves_none {ts rs : List (List Int)} {ms : List (Option Bool)} {l : Int} {w : Bool} : (movesP ts rs ms l w).isEmpty = winP ts ms l w := by
  cases h : winP ts ms l w
  · have h2 : stepsP ts ms l w ≠ [] := fun e => by
      unfold winP at h
      rw [e] at h
      simp at h
    cases hs : stepsP ts ms l w with
    | nil => exact absurd hs h2
    | cons s ss =>
      cases ht : takP rs (stepM ms s.1 s.2 w) s.2 w with
      | nil => exact absurd ht tak_ne
      | cons t tt =>
        have : [s.1, s.2, t] ∈ movesP ts rs ms l w := by
          unfold movesP
          rw [h]
          simp only [Bool.false_eq_true, if_false]
          rw [sortT_mem]
          refine List.mem_flatMap.mpr ⟨s, by rw [hs]; simp, List.mem_map.mpr ⟨t, by rw [ht]; simp, rfl⟩⟩
        cases hm : movesP ts rs ms l w with
        | nil => rw [hm] at this; simp at this
        | cons _ _ => rfl
  · unfold movesP; rw [h]; rfl
theorem q_neB (x y : Bool) : cmpop .ne (.bl x) (.bl y) = .ok (.bl (x != y)) := by cases x <;> cases y <;> rfl
theorem shape_tups (ts : List (List Int)) : shape (tupsD ts) = true := by
  unfold shape tupsD
  simp only [shap]
  have : ∀ n (ts : List (List Int)), shaps (n + 1) (ts.map intT) = true := fun n ts => by
    induction ts with
    | nil => simp [shaps]
    | cons x ts ih => simp only [List.map_cons, shaps, ih, Bool.and_true]; unfold intT; simp [shap, shaps_ints']
  exact this _ _
theorem q_eq0 (ts : List (List Int)) : cmpop .eq (tupsD ts) (.tup []) = .ok (.bl ts.isEmpty) := by
  show chk (shape (tupsD ts) && shape (.tup [])) (R.ok (D.bl (eqv (tupsD ts) (.tup [])))) = _
  have e : eqv (tupsD ts) (.tup []) = ts.isEmpty := by
    unfold eqv tupsD
    cases ts <;> simp [toPy, toPys, PySem.PyData.eqv, PySem.PyData.eqvAll]
  rw [shape_tups, e]; rfl
theorem man_ne (o p : Option Bool) : cmpop .ne (manD o) (manD p) = .ok (.bl (decide (o ≠ p))) := by
  cases o with
  | none => cases p with
    | none => rfl
    | some b => cases b <;> rfl
  | some a => cases p with
    | none => cases a <;> rfl
    | some b => cases a <;> cases b <;> rfl
theorem man_ne1 (o : Option Bool) (b : Bool) : cmpop .ne (manD o) (.int (whoI b)) = .ok (.bl (decide (o ≠ some b))) := man_ne o (some b)
theorem k_rangeH {f : D → R (Option D)} {rs : List (List Int)} {ms : List (Option Bool)} {v : Bool} (h : ∀ i : Nat, i < ms.length → f (.int (i : Nat)) = .ok (if (rowsP rs ms v).any (inR (i : Int)) = true then some (.int (i : Nat)) else none)) : compL f (rangeD 0 ms.length) = .ok ((heldR rs ms v).map D.int) := by
  rw [rangeD_map]
  have e : (heldR rs ms v).map D.int = (List.range ms.length).filterMap fun (i : Nat) => if (rowsP rs ms v).any (inR (i : Int)) then some (D.int i) else none := by
    unfold heldR
    rw [List.map_filterMap]
    congr 1
    funext i
    split <;> rfl
  rw [e]
  exact compL_opt fun i hi => h i (List.mem_range.mp hi)
theorem q_ninI (g : Int) (r : List Int) : cmpop .nin (.int g) (intT r) = .ok (.bl (!(inR g r))) := by
  have h' : (inOne (.int g) (intT r)).bind (fun k => R.ok (D.bl k)) = .ok (.bl (inR g r)) := q_innT g r
  obtain ⟨k, h1, h2⟩ := bindR_ok h'
  cases h2
  show (inOne (.int g) (intT r)).bind _ = _
  rw [h1]; rfl
theorem any_no {α : Type} (xs : List α) : blt .any [.lst (xs.map fun _ => .bl false)] = .ok (.bl false) := by
  rw [b_anyM (p := fun _ => false)]; simp
end Ev

namespace Ev
/-! ### stands as one thing, papers -/
structure Sta where
  ms : List (Option Bool)
  a : Int
  b : Int
  w : Bool
namespace Sta
def d (s : Sta) : D := standD s.ms s.a s.b s.w
def lf (s : Sta) : Int := lft s.a s.b s.w
def nxt (s : Sta) : List Int → Sta
  | [x, y, z] => ⟨afterM s.ms x y z s.w, lessA x s.a s.w, lessB x s.b s.w, !s.w⟩
  | _ => s
end Sta
def mvs (ts rs : List (List Int)) (s : Sta) : List (List Int) := movesP ts rs s.ms s.lf s.w
def won (ts : List (List Int)) (s : Sta) : Bool := winP ts s.ms s.lf s.w
theorem mvs_none {ts rs : List (List Int)} {s : Sta} : (mvs ts rs s).isEmpty = won ts s := moves_none
theorem mvs_mem {m : Int} {ts rs : List (List Int)} {s : Sta} (g : Good 2 m ts) (hl : (s.ms.length : Int) = m) {x : List Int} (h : x ∈ mvs ts rs s) : ∃ b g t, x = [b, g, t] ∧ MoveOk m ts rs s.ms s.lf s.w b g t := moves_mem g hl h
theorem nxt_len {m : Int} {s : Sta} {x : List Int} (hl : (s.ms.length : Int) = m) : ((s.nxt x).ms.length : Int) = m := by
  unfold Sta.nxt
  split
  · show ((afterM s.ms _ _ _ s.w).length : Int) = m
    rw [afterM_len]; exact hl
  · exact hl
def optD : Option D → D
  | some d => d
  | none => .non
def ansP (P : Sta → Option D) (ts rs : List (List Int)) (s : Sta) : Option D :=
  if won ts s = true then some (.tup [])
  else if ((mvs ts rs s).all fun an => (P (s.nxt an)).isSome) = true then some (.tup ((mvs ts rs s).map fun an => .tup [intT an, optD (P (s.nxt an))])) else none
def paperP (ts rs : List (List Int)) : Nat → Sta → Option D
  | 0, _ => none
  | j + 1, s => (mvs ts rs s).findSome? fun mv => (ansP (paperP ts rs j) ts rs (s.nxt mv)).map fun a => .tup [intT mv, a]
def canP (ts rs : List (List Int)) : Nat → Sta → Bool
  | 0, _ => false
  | j + 1, s => (mvs ts rs s).any fun mv => won ts (s.nxt mv) || (decide (0 < j) && (mvs ts rs (s.nxt mv)).all fun an => canP ts rs j ((s.nxt mv).nxt an))
theorem ans_some {P : Sta → Option D} {ts rs : List (List Int)} {s : Sta} : (ansP P ts rs s).isSome = (won ts s || (mvs ts rs s).all fun an => (P (s.nxt an)).isSome) := by
  unfold ansP
  cases won ts s
  · cases h : (mvs ts rs s).all fun an => (P (s.nxt an)).isSome <;> simp [h]
  · simp
theorem findSome_isSome {α β : Type} (f : α → Option β) : ∀ xs : List α, (xs.findSome? f).isSome = xs.any fun x => (f x).isSome
  | [] => rfl
  | x :: xs => by
    rw [List.findSome?_cons, List.any_cons, ← findSome_isSome f xs]
    cases f x <;> simp
theorem paper_can (ts rs : List (List Int)) : ∀ (j : Nat) (s : Sta), (paperP ts rs j s).isSome = canP ts rs j s
  | 0, _ => rfl
  | j + 1, s => by
    show ((mvs ts rs s).findSome? _).isSome = (mvs ts rs s).any _
    rw [findSome_isSome]
    congr 1
    funext mv
    rw [Option.isSome_map, ans_some]
    have ih := fun an => paper_can ts rs j ((s.nxt mv).nxt an)
    simp only [ih]
    cases hw : won ts (s.nxt mv)
    · cases j with
      | zero =>
        have hn := mvs_none (ts := ts) (rs := rs) (s := s.nxt mv)
        rw [hw] at hn
        cases hm : mvs ts rs (s.nxt mv) with
        | nil => rw [hm] at hn; cases hn
        | cons x xs => simp [canP]
      | succ j => simp
    · simp
/-- a paper is a pair -/
theorem paper_is {ts rs : List (List Int)} {j : Nat} {s : Sta} {p : D} (h : paperP ts rs j s = some p) : ∃ k mv a, j = k + 1 ∧ mv ∈ mvs ts rs s ∧ ansP (paperP ts rs k) ts rs (s.nxt mv) = some a ∧ p = .tup [intT mv, a] := by
  cases j with
  | zero => cases h
  | succ k =>
    obtain ⟨mv, h1, h2⟩ := List.exists_of_findSome?_eq_some h
    rw [Option.map_eq_some_iff] at h2
    obtain ⟨a, h3, h4⟩ := h2
    exact ⟨k, mv, a, rfl, h1, h3, h4.symm⟩
theorem ans_is {P : Sta → Option D} {ts rs : List (List Int)} {s : Sta} {a : D} (h : ansP P ts rs s = some a) : (won ts s = true ∧ a = .tup []) ∨ (won ts s = false ∧ (∀ an ∈ mvs ts rs s, ∃ p, P (s.nxt an) = some p) ∧ a = .tup ((mvs ts rs s).map fun an => .tup [intT an, optD (P (s.nxt an))])) := by
  unfold ansP at h
  cases hw : won ts s
  · rw [hw] at h
    simp only [Bool.false_eq_true, if_false] at h
    split at h
    · rename_i ha
      cases h
      refine .inr ⟨rfl, fun an hm => ?_, rfl⟩
      have := List.all_eq_true.mp ha an hm
      cases hp : P (s.nxt an) with
      | none => rw [hp] at this; cases this
      | some p => exact ⟨p, rfl⟩
    · cases h
  · rw [hw] at h; cases h; exact .inl ⟨rfl, rfl⟩
theorem ans_non {P : Sta → Option D} {ts rs : List (List Int)} {s : Sta} : isNon (optD (ansP P ts rs s)) = (ansP P ts rs s).isNone := by
  cases h : ansP P ts rs s with
  | none => rfl
  | some a => rcases ans_is h with ⟨_, rfl⟩ | ⟨_, _, rfl⟩ <;> rfl
theorem paper_non {ts rs : List (List Int)} {j : Nat} {s : Sta} : isNon (optD (paperP ts rs j s)) = (paperP ts rs j s).isNone := by
  cases h : paperP ts rs j s with
  | none => rfl
  | some a => obtain ⟨_, _, _, _, _, _, rfl⟩ := paper_is h; rfl
/-- so many moves -/
def lev (j : Nat) (many : Int) : Prop := 2 * (j : Int) - 1 ≤ many ∧ many ≤ 2 * j
theorem lev_dn {j : Nat} {many : Int} (h : lev (j + 1) many) : lev j (many - 2) := by unfold lev at *; omega
theorem zip_map {α : Type} (f g : α → D) : ∀ xs : List α, zipL (xs.map f) (xs.map g) = xs.map fun x => .tup [f x, g x]
  | [] => rfl
  | x :: xs => by rw [List.map_cons, List.map_cons, List.map_cons, ← zip_map f g xs]; rfl
/-- a loop that may end with a value -/
theorem forL_find {α : Type} {body : SEnv → R Fl} {tg : TG} {fg : List Nat} {env : SEnv} (f : α → D) (v : α → Option D) : ∀ {xs : List α}, (∀ x ∈ xs, ∃ env1, setTS tg (f x) env = .ok env1 ∧ match v x with
      | some d => body env1 = .ok (.rt d)
      | none => stepR fg (body env1) = .ok env) →
    forL body tg fg (xs.map f) env = match xs.findSome? v with
      | some d => .ok (.rt d)
      | none => .ok (.nx env)
  | [], _ => rfl
  | x :: xs, h => by
    obtain ⟨env1, h1, h2⟩ := h x List.mem_cons_self
    rw [List.map_cons, List.findSome?_cons]
    cases hv : v x with
    | some d =>
      rw [hv] at h2
      exact forL_ret h1 h2
    | none =>
      rw [hv] at h2
      rw [forL_step (env' := env) (by rw [h1]; exact h2)]
      exact forL_find f v fun y hy => h y (List.mem_cons_of_mem _ hy)
theorem count_menL (ms : List (Option Bool)) (b : Bool) : meth .count (.lst (mensD ms)) [.int (whoI b)] = .ok (.int ((idxs (isMan b) ms).length : Nat)) := by
  have h := count_men ms b
  have h1 : shape (D.int (whoI b)) = true := rfl
  have h2 : shape (D.tup (mensD ms)) = true := by unfold shape; simp [shap, shaps_men]
  have h3 : shape (D.lst (mensD ms)) = true := by unfold shape; simp [shap, shaps_men]
  have e : meth .count (.lst (mensD ms)) [.int (whoI b)] = meth .count (.tup (mensD ms)) [.int (whoI b)] := by
    show chk (shape (D.int (whoI b)) && shape (D.lst (mensD ms))) _ = chk (shape (D.int (whoI b)) && shape (D.tup (mensD ms))) _
    rw [h1, h2, h3]
  rw [e, h]
@[simp] theorem z_cntL {xs : List D} : recv .count (.lst xs) = true := rfl
theorem eqvAll_tupsS : ∀ xs : List (List Int), PySem.PyData.eqvAll (toPys (xs.map intT)) (toPys (xs.map intT)) = true
  | [] => by simp [toPys, PySem.PyData.eqvAll]
  | x :: xs => by
    have h := eqv_intT x x
    unfold eqv at h
    simp [toPys, PySem.PyData.eqvAll, h, eqvAll_tupsS xs]
theorem q_neLs (xs : List (List Int)) : cmpop .ne (.lst (xs.map intT)) (.lst (xs.map intT)) = .ok (.bl false) := by
  have h2 : shape (.lst (xs.map intT)) = true := by
    have := shape_tups xs
    unfold shape tupsD at this
    unfold shape
    simpa [shap] using this
  show chk (shape _ && shape _) (R.ok (D.bl (!eqv _ _))) = _
  rw [h2]
  have : eqv (.lst (xs.map intT)) (.lst (xs.map intT)) = true := by
    unfold eqv
    simp [toPy, PySem.PyData.eqv, eqvAll_tupsS]
  rw [this]; rfl
theorem q_neTs (x : List Int) : cmpop .ne (intT x) (intT x) = .ok (.bl false) := by
  show chk (shape (intT x) && shape (intT x)) (R.ok (D.bl (!eqv _ _))) = _
  rw [shape_intT, eqv_intT]; simp [chk]
theorem q_eq00 : cmpop .eq (.tup []) (.tup []) = .ok (.bl true) := q_eq0 []
/-! ### bodies in two parts -/
def tailS : Nat → SL → SL
  | 0, s => s
  | n + 1, .cons _ r => tailS n r
  | _, .nil => .nil
def takeS : Nat → SL → SL
  | 0, _ => .nil
  | n + 1, .cons s r => .cons s (takeS n r)
  | _, .nil => .nil
def forB : SL → SL
  | .cons (.for_ _ _ b _ _) _ => b
  | _ => .nil
theorem exec_split (C : Cl) : ∀ (n : Nat) (s : SL) (env : SEnv), execL C s env = (execL C (takeS n s) env).bind fun fl => match fl with
    | .nx env' => execL C (tailS n s) env'
    | fl => .ok fl
  | 0, s, env => by show _ = execL C s env; rfl
  | n + 1, .nil, env => rfl
  | n + 1, .cons s r, env => by
    have ih := exec_split C n r
    show (exec C s env).bind _ = ((exec C s env).bind _).bind _
    cases exec C s env with
    | ok fl =>
      cases fl with
      | nx e => exact ih e
      | ct e => rfl
      | rt d => rfl
    | exc c => rfl
    | bad => rfl
end Ev

namespace Ev
/-! ### games -/
def lastOf (s0 : Sta) (w : List (List Int)) : Sta := w.foldl Sta.nxt s0
def stasOf (s0 : Sta) : List (List Int) → List Sta
  | [] => [s0]
  | mv :: w => s0 :: stasOf (s0.nxt mv) w
theorem last_snoc {s0 : Sta} {w : List (List Int)} {mv : List Int} : lastOf s0 (w ++ [mv]) = (lastOf s0 w).nxt mv := by simp [lastOf]
theorem stas_snoc : ∀ {w : List (List Int)} {s0 : Sta} {mv : List Int}, stasOf s0 (w ++ [mv]) = stasOf s0 w ++ [(lastOf s0 w).nxt mv]
  | [], _, _ => rfl
  | x :: w, s0, mv => by
    show s0 :: stasOf (s0.nxt x) (w ++ [mv]) = (s0 :: stasOf (s0.nxt x) w) ++ _
    rw [stas_snoc]; rfl
theorem stas_len : ∀ {w : List (List Int)} {s0 : Sta}, (stasOf s0 w).length = w.length + 1
  | [], _ => rfl
  | x :: w, s0 => by show (stasOf (s0.nxt x) w).length + 1 = _; rw [stas_len]; rfl
theorem stas_end : ∀ {w : List (List Int)} {s0 : Sta}, ∃ pre, stasOf s0 w = pre ++ [lastOf s0 w]
  | [], s0 => ⟨[], rfl⟩
  | x :: w, s0 => by
    obtain ⟨pre, h⟩ := stas_end (w := w) (s0 := s0.nxt x)
    exact ⟨s0 :: pre, by show s0 :: stasOf (s0.nxt x) w = _; rw [h]; rfl⟩
theorem stas_take : ∀ {w : List (List Int)} {s0 : Sta} {i : Nat}, (stasOf s0 w).take (i + 1) = stasOf s0 (w.take i)
  | [], s0, i => by simp [stasOf]
  | x :: w, s0, 0 => by simp [stasOf]
  | x :: w, s0, i + 1 => by
    show (s0 :: stasOf (s0.nxt x) w).take (i + 1 + 1) = s0 :: stasOf (s0.nxt x) (w.take i)
    rw [List.take_succ_cons, stas_take]
theorem stas_get : ∀ {w : List (List Int)} {s0 : Sta} {i : Nat}, i ≤ w.length → (stasOf s0 w)[i]? = some (lastOf s0 (w.take i))
  | w, s0, 0, _ => by cases w <;> simp [stasOf, lastOf]
  | [], s0, i + 1, h => by simp at h
  | x :: w, s0, i + 1, h => by
    show (s0 :: stasOf (s0.nxt x) w)[i + 1]? = _
    rw [List.getElem?_cons_succ, stas_get (by simpa using h)]
    rfl
theorem last_len {m : Int} {w : List (List Int)} {s0 : Sta} (h : (s0.ms.length : Int) = m) : ((lastOf s0 w).ms.length : Int) = m := by
  unfold lastOf
  induction w generalizing s0 with
  | nil => exact h
  | cons x w ih => exact ih (nxt_len h)
theorem atI_end {α : Type} (xs : List α) (x : α) : atI (xs ++ [x]) (-1) = some x := by
  unfold atI ixN
  have h1 : ¬ (0 : Int) ≤ -1 := by omega
  have h2 : -((xs ++ [x]).length : Int) ≤ -1 := by simp; omega
  rw [if_neg h1, if_pos h2]
  have h3 : (-1 + ((xs ++ [x]).length : Int)).toNat = xs.length := by simp; omega
  simp only [h3, Option.bind_some]
  simp
theorem atI_back {α : Type} {xs : List α} {j : Nat} (h : j < xs.length) : atI xs (-1 - (j : Int)) = some (xs.reverse[j]'(by simpa using h)) := by
  unfold atI ixN
  have h1 : ¬ (0 : Int) ≤ -1 - j := by omega
  have h2 : -(xs.length : Int) ≤ -1 - j := by omega
  rw [if_neg h1, if_pos h2]
  have h3 : (-1 - (j : Int) + xs.length).toNat = xs.length - 1 - j := by omega
  have h4 : xs.length - 1 - j < xs.length := by omega
  simp only [h3, Option.bind_some, List.getElem_reverse]
  exact List.getElem?_eq_getElem h4
def stasD (s0 : Sta) (w : List (List Int)) : List D := (stasOf s0 w).map Sta.d
theorem stasD_snoc {w : List (List Int)} {s0 : Sta} {mv : List Int} : stasD s0 (w ++ [mv]) = stasD s0 w ++ [((lastOf s0 w).nxt mv).d] := by
  unfold stasD; rw [stas_snoc]; simp
theorem stasD_len {w : List (List Int)} {s0 : Sta} : (stasD s0 w).length = w.length + 1 := by unfold stasD; rw [List.length_map, stas_len]
theorem sub_stasL {s0 : Sta} {w : List (List Int)} : subD (.lst (stasD s0 w)) (.int (-1)) = .ok (lastOf s0 w).d := by
  obtain ⟨pre, h⟩ := stas_end (w := w) (s0 := s0)
  show orBad (atI (stasD s0 w) (-1)) = _
  unfold stasD
  rw [h, List.map_append, List.map_cons, List.map_nil, atI_end]; rfl
theorem sub_stasT {s0 : Sta} {w : List (List Int)} : subD (.tup (stasD s0 w)) (.int (-1)) = .ok (lastOf s0 w).d := sub_stasL
theorem sub_stasN {s0 : Sta} {w : List (List Int)} {i : Nat} (h : i ≤ w.length) : subD (.lst (stasD s0 w)) (.int (i : Nat)) = .ok (lastOf s0 (w.take i)).d := by
  show orBad (atI (stasD s0 w) (i : Int)) = _
  have hl : i < (stasD s0 w).length := by rw [stasD_len]; omega
  rw [atI_nat hl]
  show R.ok _ = _
  congr 1
  have e := stas_get (s0 := s0) h
  have e2 : (stasD s0 w)[i]? = some (lastOf s0 (w.take i)).d := by unfold stasD; rw [List.getElem?_map, e]; rfl
  rw [List.getElem?_eq_getElem hl] at e2
  exact Option.some.inj e2
def quietOf : List Int → Bool
  | [x, _, z] => decide (0 ≤ x) && decide (z < 0)
  | _ => false
def quietP (w : List (List Int)) : Nat := (w.reverse.takeWhile quietOf).length
theorem quiet_snoc {w : List (List Int)} {mv : List Int} : quietP (w ++ [mv]) = if quietOf mv = true then quietP w + 1 else 0 := by
  unfold quietP
  rw [List.reverse_append, List.reverse_singleton, List.singleton_append, List.takeWhile_cons]
  split <;> simp
theorem quiet_le {w : List (List Int)} : quietP w ≤ w.length := by
  unfold quietP
  have := List.IsPrefix.length_le (List.takeWhile_prefix quietOf (l := w.reverse))
  simpa using this
theorem tw_lt {α : Type} {q : α → Bool} : ∀ {l : List α} {j : Nat}, j < (l.takeWhile q).length → ∃ h : j < l.length, q l[j] = true
  | [], j, h => by simp at h
  | x :: l, j, h => by
    rw [List.takeWhile_cons] at h
    cases hq : q x
    · rw [hq] at h; simp at h
    · rw [hq] at h
      cases j with
      | zero => exact ⟨by simp, hq⟩
      | succ j =>
        obtain ⟨h1, h2⟩ := tw_lt (l := l) (j := j) (by simpa using h)
        exact ⟨by simpa using h1, by simpa using h2⟩
theorem tw_eq {α : Type} {q : α → Bool} : ∀ {l : List α} (h : (l.takeWhile q).length < l.length), q (l[(l.takeWhile q).length]) = false
  | [], h => by simp at h
  | x :: l, h => by
    cases hq : q x
    · have : (x :: l).takeWhile q = [] := by rw [List.takeWhile_cons, hq]; rfl
      simp [this, hq]
    · have e : (x :: l).takeWhile q = x :: l.takeWhile q := by rw [List.takeWhile_cons, hq]; rfl
      have h2 : (l.takeWhile q).length < l.length := by rw [e] at h; simpa using h
      have := tw_eq h2
      simp only [e, List.length_cons, List.getElem_cons_succ]
      exact this
def thrP (s0 : Sta) (w : List (List Int)) : Bool := decide (2 < (stasD s0 w).countP fun z => eqv z (lastOf s0 w).d)
def wonD (w : Bool) : D := .str (if w then "won 1" else "won 0")
def howP (ts : List (List Int)) (s0 : Sta) (w : List (List Int)) : D :=
  if won ts (lastOf s0 w) = true then wonD (!(lastOf s0 w).w) else if thrP s0 w = true then .str "thrice" else if 40 ≤ quietP w then .str "long" else .str "on"
def onP (ts : List (List Int)) (s0 : Sta) (w : List (List Int)) : Bool := !won ts (lastOf s0 w) && !thrP s0 w && decide (quietP w < 40)
theorem won_str (w : Bool) : (blt .str [.int (whoI w)]).bind (fun x => binop .add (.str "won ") x) = .ok (wonD w) := by
  cases w <;> kernel_rfl
theorem how_ne {ts : List (List Int)} {s0 : Sta} {w : List (List Int)} : cmpop .ne (howP ts s0 w) (.str "on") = .ok (.bl (!onP ts s0 w)) := by
  have a1 : cmpop .ne (wonD true) (.str "on") = .ok (.bl true) := by kernel_rfl
  have a2 : cmpop .ne (wonD false) (.str "on") = .ok (.bl true) := by kernel_rfl
  have a3 : cmpop .ne (.str "thrice") (.str "on") = .ok (.bl true) := by kernel_rfl
  have a4 : cmpop .ne (.str "long") (.str "on") = .ok (.bl true) := by kernel_rfl
  have a5 : cmpop .ne (.str "on") (.str "on") = .ok (.bl false) := by kernel_rfl
  unfold howP onP
  cases won ts (lastOf s0 w)
  · cases thrP s0 w
    · by_cases h : 40 ≤ quietP w
      · have : ¬ quietP w < 40 := by omega
        simp [h, this, a4]
      · have : quietP w < 40 := by omega
        simp [h, this, a5]
    · simp [a3]
  · cases (lastOf s0 w).w <;> simp [a1, a2]
theorem how_eq {ts : List (List Int)} {s0 : Sta} {w : List (List Int)} : cmpop .eq (howP ts s0 w) (.str "on") = .ok (.bl (onP ts s0 w)) := by
  have a1 : cmpop .eq (wonD true) (.str "on") = .ok (.bl false) := by kernel_rfl
  have a2 : cmpop .eq (wonD false) (.str "on") = .ok (.bl false) := by kernel_rfl
  have a3 : cmpop .eq (.str "thrice") (.str "on") = .ok (.bl false) := by kernel_rfl
  have a4 : cmpop .eq (.str "long") (.str "on") = .ok (.bl false) := by kernel_rfl
  have a5 : cmpop .eq (.str "on") (.str "on") = .ok (.bl true) := by kernel_rfl
  unfold howP onP
  cases won ts (lastOf s0 w)
  · cases thrP s0 w
    · by_cases h : 40 ≤ quietP w
      · have : ¬ quietP w < 40 := by omega
        simp [h, this, a4]
      · have : quietP w < 40 := by omega
        simp [h, this, a5]
    · simp [a3]
  · cases (lastOf s0 w).w <;> simp [a1, a2]
/-- moves that may be made one behind the other -/
def Val (ts rs : List (List Int)) (s0 : Sta) (w : List (List Int)) : Prop := ∀ pre mv post, w = pre ++ mv :: post → onP ts s0 pre = true ∧ mv ∈ mvs ts rs (lastOf s0 pre)
theorem val_nil {ts rs : List (List Int)} {s0 : Sta} : Val ts rs s0 [] := fun pre mv post h => by simp at h
theorem val_take {ts rs : List (List Int)} {s0 : Sta} {w : List (List Int)} (h : Val ts rs s0 w) (i : Nat) : Val ts rs s0 (w.take i) := fun pre mv post e => h pre mv (post ++ w.drop i) (by rw [← List.cons_append, ← List.append_assoc, ← e, List.take_append_drop])
theorem val_snoc {ts rs : List (List Int)} {s0 : Sta} {w : List (List Int)} {mv : List Int} (h : Val ts rs s0 w) (h1 : onP ts s0 w = true) (h2 : mv ∈ mvs ts rs (lastOf s0 w)) : Val ts rs s0 (w ++ [mv]) := fun pre x post e => by
  rcases List.append_eq_append_iff.mp e with ⟨a, h3, h4⟩ | ⟨a, h3, h4⟩
  · cases a with
    | nil => simp at h3 h4; obtain ⟨rfl, rfl⟩ := h4; subst h3; exact ⟨h1, h2⟩
    | cons y a =>
      simp at h4
  · cases a with
    | nil => simp at h3 h4; obtain ⟨rfl, rfl⟩ := h4; subst h3; exact ⟨h1, h2⟩
    | cons y a =>
      rw [List.cons_append] at h4
      injection h4 with h5 h6
      subst h5
      exact h pre x a h3
theorem val_mem {ts rs : List (List Int)} {s0 : Sta} {w : List (List Int)} (h : Val ts rs s0 w) {mv : List Int} (hm : mv ∈ w) : ∃ pre, mv ∈ mvs ts rs (lastOf s0 pre) := by
  obtain ⟨pre, post, e⟩ := List.append_of_mem hm
  exact ⟨pre, (h pre mv post e).2⟩
theorem val_tri {m : Int} {ts rs : List (List Int)} {s0 : Sta} {w : List (List Int)} (g : Good 2 m ts) (hl : (s0.ms.length : Int) = m) (h : Val ts rs s0 w) {mv : List Int} (hm : mv ∈ w) : ∃ x y z, mv = [x, y, z] := by
  obtain ⟨pre, h1⟩ := val_mem h hm
  obtain ⟨x, y, z, e, _⟩ := mvs_mem g (last_len hl) h1
  exact ⟨x, y, z, e⟩
theorem shape_sta (s : Sta) : shape s.d = true := by
  unfold shape Sta.d standD
  simp [shap, shaps, shaps_men]
theorem shaps_stas (n : Nat) (ss : List Sta) : shaps (n + 2) (ss.map Sta.d) = true := by
  induction ss with
  | nil => simp [shaps]
  | cons s ss ih =>
    simp only [List.map_cons, shaps, ih, Bool.and_true]
    unfold Sta.d standD
    simp [shap, shaps, shaps_men]
theorem q_eqS (s t : Sta) : cmpop .eq s.d t.d = .ok (.bl (eqv s.d t.d)) := by
  show chk (shape s.d && shape t.d) _ = _
  rw [shape_sta, shape_sta]; rfl
theorem count_stas (s0 : Sta) (w : List (List Int)) (t : Sta) : meth .count (.lst (stasD s0 w)) [t.d] = .ok (.int ((stasD s0 w).countP fun z => eqv z t.d : Nat)) := by
  show chk (shape t.d && shape (.lst (stasD s0 w))) _ = _
  have h : shape (.lst (stasD s0 w)) = true := by unfold shape stasD; simp [shap, shaps_stas]
  rw [shape_sta, h]; rfl
theorem nl_sta (s : Sta) : noList s.d = true := nl_stand s.ms s.a s.b s.w
/-- a loop that counts -/
theorem whl_count {test : SEnv → R Bool} {body : SEnv → R Fl} {fg : List Nat} (E : Nat → SEnv) (N : Nat) (h1 : ∀ j, j < N → test (E j) = .ok true ∧ ((body (E j)).bind fun fl => .ok fl) = .ok (.nx (E (j + 1)))) (hf : ∀ j, forget fg (E j) = E j) (h2 : test (E N) = .ok false) :
    ∀ (k j fuel : Nat), j + k = N → k < fuel → whlL test body fg fuel (E j) = .ok (.nx (E N))
  | 0, j, fuel + 1, hj, _ => by
    have hj : j = N := hj
    subst hj
    show (test (E j)).bind _ = _
    rw [h2]; rfl
  | k + 1, j, fuel + 1, hj, hk => by
    obtain ⟨h3, h4⟩ := h1 j (by omega)
    have h5 : body (E j) = .ok (.nx (E (j + 1))) := by
      cases hb : body (E j) <;> rw [hb] at h4 <;> cases h4
      rfl
    show (test (E j)).bind _ = _
    rw [h3]
    show (body (E j)).bind _ = _
    rw [h5]
    show whlL test body fg fuel (forget fg (E (j + 1))) = _
    rw [hf]
    exact whl_count E N h1 hf h2 k (j + 1) fuel (by omega) (by omega)
theorem nl_tups (ts : List (List Int)) : noList (tupsD ts) = true := by
  unfold noList tupsD
  simp only [flat]
  have : ∀ n (ts : List (List Int)), flats (n + 1) (ts.map intT) = true := fun n ts => by
    induction ts with
    | nil => simp [flats]
    | cons x ts ih => simp only [List.map_cons, flats, ih, Bool.and_true]; unfold intT; simp [flat, flats_ints]
  exact this _ _
theorem sub_two0 {x y : D} : subD (.tup [x, y]) (.int 0) = .ok x := rfl
theorem sub_two1 {x y : D} : subD (.tup [x, y]) (.int 1) = .ok y := rfl
theorem q_inTL (t : List Int) (ts : List (List Int)) : cmpop .inn (intT t) (.lst (ts.map intT)) = .ok (.bl (decide (t ∈ ts))) := by
  have h := q_inT t ts
  have h1 : shape (tupsD ts) = true := shape_tups ts
  have h2 : shape (.lst (ts.map intT)) = true := by
    unfold shape tupsD at h1
    unfold shape
    simpa [shap] using h1
  have e : cmpop .inn (intT t) (.lst (ts.map intT)) = cmpop .inn (intT t) (tupsD ts) := by
    show (chk (shape (intT t) && shape (.lst (ts.map intT))) (.ok ((ts.map intT).any fun z => eqv z (intT t)))).bind _ = (chk (shape (intT t) && shape (tupsD ts)) (.ok ((ts.map intT).any fun z => eqv z (intT t)))).bind _
    rw [h1, h2]
  rw [e, h]
theorem sub_back {w : List (List Int)} {j : Nat} (h : j < w.length) : subD (.lst (w.map intT)) (.int (-1 - (j : Int))) = .ok (intT (w.reverse[j]'(by simpa using h))) := by
  show orBad (atI (w.map intT) (-1 - (j : Int))) = _
  rw [atI_back (by simpa using h)]
  simp [orBad]
theorem sub_lsts {ts : List (List Int)} {i : Nat} (h : i < ts.length) : subD (.lst (ts.map intT)) (.int (i : Nat)) = .ok (intT ts[i]) := sub_tups h
theorem len_lsts (ts : List (List Int)) : blt .len [.lst (ts.map intT)] = .ok (.int (ts.length : Nat)) := by
  show R.ok (D.int ((ts.map intT).length : Nat)) = _
  rw [List.length_map]
/-- a loop on a condition -/
theorem whl_rel {test : SEnv → R Bool} {body : SEnv → R Fl} {fg : List Nat} (P : Nat → SEnv → Prop) (N : Nat) (h : ∀ j env, P j env → test env = .ok false ∨ (j < N ∧ test env = .ok true ∧ ∃ e', stepR fg (body env) = .ok e' ∧ P (j + 1) e')) :
    ∀ (k j fuel : Nat) (env : SEnv), j + k = N → k < fuel → P j env → ∃ j' e, whlL test body fg fuel env = .ok (.nx e) ∧ P j' e
  | k, j, fuel + 1, env, hj, hk, hp => by
    show ∃ j' e, (test env).bind _ = _ ∧ _
    rcases h j env hp with h1 | ⟨h1, h2, e', h3, h4⟩
    · rw [h1]; exact ⟨j, env, rfl, hp⟩
    · obtain ⟨k, rfl⟩ : ∃ k', k = k' + 1 := ⟨k - 1, by omega⟩
      obtain ⟨j', e, h5, h6⟩ := whl_rel P N h k (j + 1) fuel e' (by omega) (by omega) h4
      refine ⟨j', e, ?_, h6⟩
      rw [h2]
      show (body env).bind _ = _
      rcases stepR_ok h3 with ⟨e1, h7, h8⟩ | ⟨e1, h7, h8⟩
      · rw [h7]; show whlL test body fg fuel (forget fg e1) = _; rw [h8]; exact h5
      · rw [h7]; show whlL test body fg fuel (forget fg e1) = _; rw [h8]; exact h5
theorem slc_L (xs : List D) (i : Nat) : slcD none (some (i : Int)) (.lst xs) = .ok (.lst (xs.take i)) := by
  show R.ok (D.lst (cut xs none (some (i : Int)))) = _
  have h1 : sIx xs.length xs.length (some (i : Int)) = min i xs.length := by
    have h0 : ¬ (i : Int) < 0 := by omega
    simp [sIx, h0]
  have h2 : sIx xs.length 0 none = 0 := rfl
  unfold cut
  rw [h1, h2, Nat.sub_zero, List.drop_zero, ← List.take_eq_take_min]
@[simp] theorem neg_1 : negD (.int 1) = .ok (.int (-1)) := rfl
@[simp] theorem neg_2 : negD (.int 2) = .ok (.int (-2)) := rfl
end Ev

namespace Ev
/-! ### turns -/
theorem set_ite {c : Prop} [Decidable c] {a b : SEnv} {i : Nat} {x : Slot} : (if c then a else b).set i x = if c then a.set i x else b.set i x := by split <;> rfl
def atL (σ : List Int) (p : Int) : Int := σ.getD p.toNat 0
def imgP (σ t : List Int) : List Int := sortI (t.map (atL σ))
theorem sub_atL {σ : List Int} {p : Int} (h : 0 ≤ p ∧ p < σ.length) : subD (intT σ) (.int p) = .ok (.int (atL σ p)) := by
  obtain ⟨n, rfl⟩ : ∃ n : Nat, p = n := ⟨p.toNat, by omega⟩
  have hn : n < σ.length := by omega
  show orBad (atI (σ.map D.int) (n : Int)) = _
  rw [atI_nat (by simpa using hn)]
  show R.ok _ = _
  congr 1
  simp [atL, List.getD_eq_getElem?_getD, hn]
/-- the pairs of dict([(t, True) ..]) -/
def dedK (ts : List (List Int)) : List (List Int) := ts.foldl insK []
theorem fold_insK {x : List Int} : ∀ {ts acc : List (List Int)}, x ∈ ts.foldl insK acc ↔ x ∈ acc ∨ x ∈ ts
  | [], acc => by simp
  | t :: ts, acc => by
    rw [List.foldl_cons, fold_insK, insK_mem]
    simp only [List.mem_cons]
    constructor
    · rintro ((h | h) | h)
      · exact .inl h
      · exact .inr (.inl h)
      · exact .inr (.inr h)
    · rintro (h | h | h)
      · exact .inl (.inl h)
      · exact .inl (.inr h)
      · exact .inr h
theorem dedK_mem {x : List Int} {ts : List (List Int)} : x ∈ dedK ts ↔ x ∈ ts := by unfold dedK; rw [fold_insK]; simp
theorem pairs_of (ts : List (List Int)) (v : D) : pairs? (ts.map fun t => .tup [intT t, v]) = some (ts.map fun t => (intT t, v)) := by
  induction ts with
  | nil => rfl
  | cons t ts ih => simp only [List.map_cons, pairs?, ih]; rfl
theorem fold_put (v : D) : ∀ (ts acc : List (List Int)), (ts.map fun t => (intT t, v)).foldl (fun a p => put a p.1 p.2) (setK acc v) = setK (ts.foldl insK acc) v
  | [], acc => rfl
  | t :: ts, acc => by
    rw [List.map_cons, List.foldl_cons, put_setK, fold_put v ts, List.foldl_cons]
theorem b_dic (ts : List (List Int)) (v : D) : blt .dic [.lst (ts.map fun t => .tup [intT t, v])] = .ok (.dic (setK (dedK ts) v)) := by
  show (match pairs? (ts.map fun t => .tup [intT t, v]) with
    | some kvs => chk (kvs.all fun p => keyT p.1) (R.ok (D.dic (kvs.foldl (fun (a : List (D × D)) (p : D × D) => put a p.1 p.2) [])))
    | none => .bad) = _
  rw [pairs_of]
  show chk ((ts.map fun t => (intT t, v)).all fun p => keyT p.1) _ = _
  have h : ((ts.map fun t => (intT t, v)).all fun p => keyT p.1) = true := by
    rw [List.all_eq_true]
    intro p hp
    obtain ⟨t, _, rfl⟩ := List.mem_map.mp hp
    exact keyT_intT t
  have e := fold_put v ts []
  have e0 : setK [] v = [] := rfl
  rw [e0] at e
  rw [h, e]; rfl
theorem q_ninD (t : List Int) (ts : List (List Int)) (v : D) : cmpop .nin (intT t) (.dic (setK (dedK ts) v)) = .ok (.bl (!decide (t ∈ ts))) := by
  show (chk (keyT (intT t)) (.ok (look (setK (dedK ts) v) (intT t)).isSome)).bind _ = _
  rw [keyT_intT]
  have h : (look (setK (dedK ts) v) (intT t)).isSome = decide (t ∈ ts) := by
    unfold look
    have h := setK_any (dedK ts) v t
    rw [Option.isSome_map]
    have e : ((setK (dedK ts) v).find? fun p => eqv p.1 (intT t)).isSome = (setK (dedK ts) v).any fun p => eqv p.1 (intT t) := by
      cases hf : (setK (dedK ts) v).find? fun p => eqv p.1 (intT t) with
      | none =>
        symm
        show _ = false
        rw [List.any_eq_false]
        exact List.find?_eq_none.mp hf
      | some x =>
        symm
        show _ = true
        rw [List.any_eq_true]
        exact ⟨x, List.mem_of_find?_eq_some hf, by have := List.find?_some hf; simpa using this⟩
    rw [e, h]
    simp [dedK_mem]
  rw [h]; rfl
theorem maxI_mem' : ∀ (ns : List Int) (m : Int), maxI m ns ∈ m :: ns ∧ m ≤ maxI m ns ∧ ∀ y ∈ ns, y ≤ maxI m ns
  | [], m => ⟨by simp [maxI], by simp [maxI], fun y h => nomatch h⟩
  | x :: r, m => by
    obtain ⟨h1, h2, h3⟩ := maxI_mem' r (if m < x then x else m)
    unfold maxI
    refine ⟨?_, ?_, fun y hy => ?_⟩
    · rcases List.mem_cons.mp h1 with h | h
      · rw [h]; split <;> simp
      · exact List.mem_cons_of_mem _ (List.mem_cons_of_mem _ h)
    · split at h2 <;> split <;> omega
    · rcases List.mem_cons.mp hy with rfl | hy
      · split at h2 <;> split <;> omega
      · exact h3 y hy
def maxL : List Int → Int
  | n :: ns => maxI n ns
  | [] => 0
theorem b_mx1T {t : List Int} (h : t ≠ []) : blt .mx1 [intT t] = .ok (.int (maxL t)) := by
  cases t with
  | nil => exact absurd rfl h
  | cons n ns =>
    show (match ints? ((n :: ns).map D.int) with
      | some (n :: ns) => R.ok (D.int (maxI n ns))
      | _ => .bad) = _
    rw [ints?_of]; rfl
theorem maxL_ge {t : List Int} {p : Int} (h : p ∈ t) : p ≤ maxL t := by
  cases t with
  | nil => simp at h
  | cons n ns =>
    obtain ⟨h1, h2, h3⟩ := maxI_mem' ns n
    rcases List.mem_cons.mp h with rfl | h
    · exact h2
    · exact h3 p h
theorem maxL_mem {t : List Int} (h : t ≠ []) : maxL t ∈ t := by
  cases t with
  | nil => exact absurd rfl h
  | cons n ns => exact (maxI_mem' ns n).1
def keptP (js : List (List Int)) (new : List Int) : Bool := js.all fun t => !decide (maxL t = (new.length : Int) - 1) || decide (imgP new t ∈ js)
def ptsP (m : Int) : List Int := (List.range m.toNat).map fun (i : Nat) => (i : Int)
theorem pts_mem {m p : Int} : p ∈ ptsP m ↔ 0 ≤ p ∧ p < m := by
  unfold ptsP
  rw [List.mem_map]
  constructor
  · rintro ⟨i, hi, rfl⟩
    have := List.mem_range.mp hi
    omega
  · intro h
    exact ⟨p.toNat, List.mem_range.mpr (by omega), by omega⟩
theorem range_pts (m : Int) : rangeD 0 m.toNat = (ptsP m).map D.int := by
  unfold rangeD ptsP
  rw [List.map_map]
  congr 1
  funext i
  show D.int (0 + (i : Int)) = D.int (i : Int)
  rw [Int.zero_add]
def okG (ts rs : List (List Int)) (a : List Int) (g : Int) : Bool := !(inR g a) && (keptP ts (a ++ [g]) && keptP rs (a ++ [g]))
def grow1 (m : Int) (ts rs : List (List Int)) (a : List Int) : List (List Int) := ((ptsP m).filter (okG ts rs a)).map fun g => a ++ [g]
def growP (m : Int) (ts rs : List (List Int)) (F : List (List Int)) : List (List Int) := F.flatMap (grow1 m ts rs)
def turnK (m : Int) (ts rs : List (List Int)) : Nat → List (List Int)
  | 0 => [[]]
  | n + 1 => growP m ts rs (turnK m ts rs n)
def turnsP (m : Int) (ts rs : List (List Int)) : List (List Int) := turnK m ts rs m.toNat
theorem turnK_len {m : Int} {ts rs : List (List Int)} : ∀ {n : Nat} {a : List Int}, a ∈ turnK m ts rs n → a.length = n ∧ (∀ g ∈ a, 0 ≤ g ∧ g < m) ∧ a.Nodup
  | 0, a, h => by
    simp only [turnK, List.mem_cons, List.not_mem_nil, or_false] at h
    subst h; simp
  | n + 1, a, h => by
    unfold turnK growP at h
    rw [List.mem_flatMap] at h
    obtain ⟨b, hb, h⟩ := h
    unfold grow1 at h
    rw [List.mem_map] at h
    obtain ⟨g, hg, rfl⟩ := h
    rw [List.mem_filter] at hg
    obtain ⟨h1, h2, h3⟩ := turnK_len hb
    refine ⟨by simp [h1], fun x hx => ?_, ?_⟩
    · rcases List.mem_append.mp hx with hx | hx
      · exact h2 x hx
      · simp only [List.mem_cons, List.not_mem_nil, or_false] at hx
        subst hx; exact pts_mem.mp hg.1
    · rw [List.nodup_append]
      refine ⟨h3, by simp, fun x hx y hy => ?_⟩
      simp only [List.mem_cons, List.not_mem_nil, or_false] at hy
      subst hy
      intro e
      subst e
      have := hg.2
      unfold okG at this
      rw [Bool.and_eq_true] at this
      have h4 := this.1
      unfold inR at h4
      simp [hx] at h4
/-- a turn of a board -/
structure IsTurn (m : Int) (ts rs : List (List Int)) (σ : List Int) : Prop where
  len : (σ.length : Int) = m
  rng : ∀ g ∈ σ, 0 ≤ g ∧ g < m
  nd : σ.Nodup
  ties : ∀ t ∈ ts, imgP σ t ∈ ts
  rows : ∀ r ∈ rs, imgP σ r ∈ rs
theorem imgP_cong {σ τ t : List Int} (h : ∀ p ∈ t, atL σ p = atL τ p) : imgP σ t = imgP τ t := by
  unfold imgP
  rw [List.map_congr_left h]
theorem atL_app {b c : List Int} {p : Int} (h : 0 ≤ p ∧ p < b.length) : atL (b ++ c) p = atL b p := by
  unfold atL
  rw [List.getD_eq_getElem?_getD, List.getD_eq_getElem?_getD, List.getElem?_append_left (by omega)]
theorem atL_take {σ : List Int} {n : Nat} {p : Int} (h : 0 ≤ p ∧ p < n) : atL (σ.take n) p = atL σ p := by
  unfold atL
  rw [List.getD_eq_getElem?_getD, List.getD_eq_getElem?_getD, List.getElem?_take_of_lt (by omega)]
theorem turnK_kept {m : Int} {ts rs : List (List Int)} : ∀ {n : Nat} {a : List Int}, a ∈ turnK m ts rs n → (∀ t ∈ ts, (∀ p ∈ t, 0 ≤ p) → t ≠ [] → maxL t < n → imgP a t ∈ ts) ∧ (∀ t ∈ rs, (∀ p ∈ t, 0 ≤ p) → t ≠ [] → maxL t < n → imgP a t ∈ rs)
  | 0, a, h => by
    refine ⟨fun t ht hp hn hm => ?_, fun t ht hp hn hm => ?_⟩
    · have := hp _ (maxL_mem hn); omega
    · have := hp _ (maxL_mem hn); omega
  | n + 1, a, h => by
    unfold turnK growP at h
    rw [List.mem_flatMap] at h
    obtain ⟨b, hb, h⟩ := h
    unfold grow1 at h
    rw [List.mem_map] at h
    obtain ⟨g, hg, rfl⟩ := h
    rw [List.mem_filter] at hg
    have hl := (turnK_len hb).1
    obtain ⟨i1, i2⟩ := turnK_kept hb
    have hk := hg.2
    unfold okG at hk
    rw [Bool.and_eq_true, Bool.and_eq_true] at hk
    have go : ∀ js : List (List Int), (∀ t ∈ js, (∀ p ∈ t, 0 ≤ p) → t ≠ [] → maxL t < n → imgP b t ∈ js) → keptP js (b ++ [g]) = true → ∀ t ∈ js, (∀ p ∈ t, 0 ≤ p) → t ≠ [] → maxL t < (n + 1 : Nat) → imgP (b ++ [g]) t ∈ js := fun js ih hk t ht hp hn hm => by
      by_cases h : maxL t < n
      · rw [imgP_cong fun p hpt => atL_app ⟨hp p hpt, by have := maxL_ge hpt; omega⟩]
        exact ih t ht hp hn h
      · have := List.all_eq_true.mp hk t ht
        have hlen : ((b ++ [g]).length : Int) - 1 = n := by simp [hl]
        have hmx : maxL t = (n : Int) := by omega
        rw [hlen, hmx] at this
        simpa using this
    exact ⟨go ts i1 hk.2.1, go rs i2 hk.2.2⟩
theorem isTurn_of {m : Int} {ts rs : List (List Int)} (g2 : Good 2 m ts) (g3 : Good 3 m rs) (h0 : 0 ≤ m) {σ : List Int} (h : σ ∈ turnsP m ts rs) : IsTurn m ts rs σ := by
  obtain ⟨h1, h2, h3⟩ := turnK_len h
  obtain ⟨k1, k2⟩ := turnK_kept h
  have ne : ∀ {s : Nat} {js : List (List Int)}, 0 < s → Good s m js → ∀ t ∈ js, (∀ p ∈ t, 0 ≤ p) ∧ t ≠ [] ∧ maxL t < (m.toNat : Nat) := fun {s js} hs g t ht => by
    have el := g.el t ht
    have hn : t ≠ [] := fun e => by have := el.len; rw [e] at this; simp at this; omega
    have := el.rng _ (maxL_mem hn)
    exact ⟨fun p hp => (el.rng p hp).1, hn, by omega⟩
  refine ⟨by omega, h2, h3, fun t ht => ?_, fun t ht => ?_⟩
  · obtain ⟨a, b, c⟩ := ne (by omega) g2 t ht
    exact k1 t ht a b c
  · obtain ⟨a, b, c⟩ := ne (by omega) g3 t ht
    exact k2 t ht a b c
theorem turn_mem {m : Int} {ts rs : List (List Int)} (g2 : Good 2 m ts) (g3 : Good 3 m rs) (h0 : 0 ≤ m) {σ : List Int} (h : IsTurn m ts rs σ) : σ ∈ turnsP m ts rs := by
  have key : ∀ n : Nat, n ≤ m.toNat → σ.take n ∈ turnK m ts rs n := by
    intro n
    induction n with
    | zero => intro _; simp [turnK]
    | succ n ih =>
      intro hn
      have hl : n < σ.length := by have := h.len; omega
      have i := ih (by omega)
      unfold turnK growP
      rw [List.mem_flatMap]
      refine ⟨_, i, ?_⟩
      unfold grow1
      rw [List.mem_map]
      have e : σ.take (n + 1) = σ.take n ++ [σ[n]] := by rw [List.take_add_one, List.getElem?_eq_getElem hl]; rfl
      refine ⟨σ[n], ?_, e.symm⟩
      rw [List.mem_filter]
      refine ⟨pts_mem.mpr (h.rng _ (List.getElem_mem hl)), ?_⟩
      unfold okG
      have hin : inR σ[n] (σ.take n) = false := by
        unfold inR
        rw [decide_eq_false_iff_not]
        intro hm
        obtain ⟨j, hj, ej⟩ := List.getElem_of_mem hm
        rw [List.length_take] at hj
        rw [List.getElem_take] at ej
        have := (List.getElem_inj h.nd).mp ej
        omega
      have go : ∀ {s : Nat} {js : List (List Int)}, Good s m js → (∀ t ∈ js, imgP σ t ∈ js) → keptP js (σ.take n ++ [σ[n]]) = true := fun {s js} g hj => by
        unfold keptP
        rw [List.all_eq_true]
        intro t ht
        rw [← e]
        by_cases hx : maxL t = ((σ.take (n + 1)).length : Int) - 1
        · have hlen : ((σ.take (n + 1)).length : Int) = n + 1 := by rw [List.length_take]; omega
          have : imgP (σ.take (n + 1)) t = imgP σ t := imgP_cong fun p hp => atL_take ⟨((g.el t ht).rng p hp).1, by have := maxL_ge hp; omega⟩
          rw [this]
          simp [hj t ht]
        · rw [decide_eq_false hx]; rfl
      rw [hin, go g2 h.ties, go g3 h.rows]; rfl
  have := key m.toNat (Nat.le_refl _)
  have hl : σ.length ≤ m.toNat := by have := h.len; omega
  rwa [List.take_of_length_le hl] at this
end Ev

namespace Ev
/-! ### what is turned -/
section
variable {α : Type} [DecidableEq α]
theorem nodup_sub : ∀ {xs ys : List α}, xs.Nodup → (∀ x ∈ xs, x ∈ ys) → ys.length ≤ xs.length → xs.Perm ys
  | [], ys, _, _, h => by
    have : ys = [] := by cases ys with | nil => rfl | cons _ _ => simp at h
    rw [this]
  | x :: xs, ys, hn, hs, h => by
    have hx := hs x List.mem_cons_self
    have p := List.perm_cons_erase hx
    rw [List.nodup_cons] at hn
    have hl := List.length_erase_of_mem hx
    simp only [List.length_cons] at h
    refine (List.Perm.cons x (nodup_sub (ys := ys.erase x) hn.2 (fun y hy => ?_) (by omega))).trans p.symm
    have hne : y ≠ x := fun e => hn.1 (e ▸ hy)
    exact (List.mem_erase_of_ne hne).mpr (hs y (List.mem_cons_of_mem _ hy))
theorem nodup_le : ∀ {xs ys : List α}, xs.Nodup → (∀ x ∈ xs, x ∈ ys) → xs.length ≤ ys.length
  | [], _, _, _ => Nat.zero_le _
  | x :: xs, ys, hn, hs => by
    have hx := hs x List.mem_cons_self
    rw [List.nodup_cons] at hn
    have hl := List.length_erase_of_mem hx
    have hp := List.length_pos_of_mem hx
    have := nodup_le (xs := xs) (ys := ys.erase x) hn.2 fun y hy => (List.mem_erase_of_ne (show y ≠ x from fun e => hn.1 (e ▸ hy))).mpr (hs y (List.mem_cons_of_mem _ hy))
    simp only [List.length_cons]
    omega
theorem perm_mem {xs ys : List α} (h1 : xs.Nodup) (h2 : ys.Nodup) (h : ∀ x, x ∈ xs ↔ x ∈ ys) : xs.Perm ys :=
  nodup_sub h1 (fun x hx => (h x).mp hx) (nodup_le h2 fun x hx => (h x).mpr hx)
end
theorem pts_nodup (m : Int) : (ptsP m).Nodup := by
  unfold ptsP
  exact List.Pairwise.map _ (fun a b (h : a ≠ b) => (show ((a : Nat) : Int) ≠ (b : Nat) from fun e => h (by omega))) List.nodup_range
section
variable {m : Int} {ts rs : List (List Int)} {σ : List Int}
theorem IsTurn.perm (h : IsTurn m ts rs σ) : σ.Perm (ptsP m) :=
  nodup_sub h.nd (fun g hg => pts_mem.mpr (h.rng g hg)) (by have := h.len; unfold ptsP; simp; omega)
theorem atL_get {p : Int} (h : 0 ≤ p ∧ p < σ.length) : atL σ p = σ[p.toNat]'(by omega) := by
  unfold atL
  rw [List.getD_eq_getElem?_getD, List.getElem?_eq_getElem (by omega)]; rfl
theorem IsTurn.at_rng (h : IsTurn m ts rs σ) {p : Int} (hp : 0 ≤ p ∧ p < m) : 0 ≤ atL σ p ∧ atL σ p < m := by
  have hl := h.len
  rw [atL_get (by omega)]
  exact h.rng _ (List.getElem_mem _)
theorem IsTurn.inj (h : IsTurn m ts rs σ) {p q : Int} (hp : 0 ≤ p ∧ p < m) (hq : 0 ≤ q ∧ q < m) (e : atL σ p = atL σ q) : p = q := by
  have hl := h.len
  rw [atL_get (by omega), atL_get (by omega)] at e
  have := (List.getElem_inj h.nd).mp e
  omega
theorem IsTurn.map (h : IsTurn m ts rs σ) : (ptsP m).map (atL σ) = σ := by
  have hl := h.len
  apply List.ext_getElem
  · unfold ptsP; simp; omega
  · intro i h1 h2
    have e : (ptsP m)[i]'(by simpa using h1) = (i : Int) := by simp [ptsP]
    rw [List.getElem_map, e, atL_get (by omega)]
    simp
theorem IsTurn.surj (h : IsTurn m ts rs σ) {q : Int} (hq : 0 ≤ q ∧ q < m) : ∃ p, 0 ≤ p ∧ p < m ∧ atL σ p = q := by
  have : q ∈ σ := h.perm.mem_iff.mpr (pts_mem.mpr hq)
  rw [← h.map] at this
  obtain ⟨p, hp, e⟩ := List.mem_map.mp this
  have := pts_mem.mp hp
  exact ⟨p, this.1, this.2, e⟩
/-- the men turned -/
def turnM (σ : List Int) (ms : List (Option Bool)) : List (Option Bool) := ms.zipIdx.foldl (fun acc p => acc.set (atL σ (p.2 : Nat)).toNat p.1) (List.replicate ms.length none)
theorem foldM_len (σ : List Int) : ∀ (ps : List (Option Bool × Nat)) (acc : List (Option Bool)), (ps.foldl (fun acc p => acc.set (atL σ (p.2 : Nat)).toNat p.1) acc).length = acc.length
  | [], _ => rfl
  | p :: ps, acc => by rw [List.foldl_cons, foldM_len σ ps, List.length_set]
theorem turnM_len {ms : List (Option Bool)} : (turnM σ ms).length = ms.length := by unfold turnM; rw [foldM_len, List.length_replicate]
theorem foldM_at (h : IsTurn m ts rs σ) : ∀ (xs : List (Option Bool)) (k : Nat) (acc : List (Option Bool)), (k + xs.length : Nat) ≤ m → (acc.length : Int) = m →
    ∀ p : Int, 0 ≤ p → p < m → atM ((xs.zipIdx k).foldl (fun acc p => acc.set (atL σ (p.2 : Nat)).toNat p.1) acc) (atL σ p) = if (k : Int) ≤ p ∧ p < (k + xs.length : Nat) then xs.getD (p.toNat - k) none else atM acc (atL σ p)
  | [], k, acc, _, _, p, h0, h1 => by
    have : ¬ ((k : Int) ≤ p ∧ p < (k + ([] : List (Option Bool)).length : Nat)) := by simp only [List.length_nil]; omega
    rw [if_neg this]; rfl
  | x :: xs, k, acc, hk, hl, p, h0, h1 => by
    rw [List.zipIdx_cons, List.foldl_cons]
    simp only [List.length_cons] at hk
    rw [foldM_at h xs (k + 1) _ (by omega) (by rw [List.length_set]; exact hl) p h0 h1]
    have hkr := h.at_rng (p := (k : Int)) (by omega)
    have hpr := h.at_rng (p := p) ⟨h0, h1⟩
    by_cases ha : (k : Int) = p
    · subst ha
      have n1 : ¬ ((((k + 1 : Nat) : Int) ≤ (k : Int)) ∧ (k : Int) < (k + 1 + xs.length : Nat)) := by omega
      have n2 : (k : Int) ≤ (k : Int) ∧ (k : Int) < (k + (x :: xs).length : Nat) := by simp only [List.length_cons]; omega
      rw [if_neg n1, if_pos n2]
      dsimp only
      rw [atM_set (by omega) hkr.1, if_pos rfl]
      simp
    · by_cases hb : (((k + 1 : Nat) : Int) ≤ p) ∧ p < (k + 1 + xs.length : Nat)
      · have n2 : (k : Int) ≤ p ∧ p < (k + (x :: xs).length : Nat) := by simp only [List.length_cons]; omega
        rw [if_pos hb, if_pos n2]
        have : p.toNat - k = (p.toNat - (k + 1)) + 1 := by omega
        rw [this, List.getD_cons_succ]
      · have n2 : ¬ ((k : Int) ≤ p ∧ p < (k + (x :: xs).length : Nat)) := by simp only [List.length_cons]; omega
        rw [if_neg hb, if_neg n2]
        dsimp only
        rw [atM_set (by omega) hpr.1]
        have : ¬ atL σ p = atL σ (k : Int) := fun e => ha (h.inj (p := (k : Int)) (q := p) (by omega) ⟨h0, h1⟩ e.symm)
        rw [if_neg this]
theorem atM_turn (h : IsTurn m ts rs σ) {ms : List (Option Bool)} (hl : (ms.length : Int) = m) {p : Int} (hp : 0 ≤ p ∧ p < m) : atM (turnM σ ms) (atL σ p) = atM ms p := by
  unfold turnM
  rw [foldM_at h ms 0 _ (by omega) (by rw [List.length_replicate]; exact hl) p hp.1 hp.2]
  have : ((0 : Nat) : Int) ≤ p ∧ p < (0 + ms.length : Nat) := by omega
  rw [if_pos this]
  unfold atM
  simp
theorem atM_ext {xs ys : List (Option Bool)} (hl : xs.length = ys.length) (h : ∀ q : Int, 0 ≤ q → q < xs.length → atM xs q = atM ys q) : xs = ys := by
  apply List.ext_getElem hl
  intro i h1 h2
  have := h (i : Int) (by omega) (by omega)
  unfold atM at this
  simpa [List.getD_eq_getElem?_getD, h1, h2] using this
/-- what agrees along the turn is the turned one -/
theorem turnM_uniq (h : IsTurn m ts rs σ) {ms xs : List (Option Bool)} (hl : (ms.length : Int) = m) (hx : (xs.length : Int) = m) (e : ∀ p : Int, 0 ≤ p → p < m → atM xs (atL σ p) = atM ms p) : xs = turnM σ ms := by
  refine atM_ext (by rw [turnM_len]; omega) fun q h0 h1 => ?_
  obtain ⟨p, p0, p1, rfl⟩ := h.surj (q := q) (by omega)
  rw [e p p0 p1, atM_turn h hl ⟨p0, p1⟩]
end
end Ev

namespace Ev
/-! ### boards turned -/
theorem El.pw {s : Nat} {m : Int} {t : List Int} (h : El s m t) : t.Pairwise (· < ·) := (pw_ris (lt := ltB) (fun a b c h1 h2 => by simp [ltB] at *; omega) h.up).imp fun h => by simpa [ltB] using h
theorem El.nd {s : Nat} {m : Int} {t : List Int} (h : El s m t) : t.Nodup := h.pw.imp fun h => by omega
theorem pw_eq : ∀ {xs ys : List Int}, xs.Pairwise (· < ·) → ys.Pairwise (· < ·) → (∀ x, x ∈ xs ↔ x ∈ ys) → xs = ys
  | [], [], _, _, _ => rfl
  | [], y :: ys, _, _, h => by have := (h y).mpr List.mem_cons_self; simp at this
  | x :: xs, [], _, _, h => by have := (h x).mp List.mem_cons_self; simp at this
  | x :: xs, y :: ys, h1, h2, h => by
    rw [List.pairwise_cons] at h1 h2
    have e : x = y := by
      rcases List.mem_cons.mp ((h x).mp List.mem_cons_self) with e | e
      · exact e
      · rcases List.mem_cons.mp ((h y).mpr List.mem_cons_self) with e' | e'
        · exact e'.symm
        · have := h1.1 y e'; have := h2.1 x e; omega
    subst e
    congr 1
    refine pw_eq h1.2 h2.2 fun z => ?_
    have hz := h z
    simp only [List.mem_cons] at hz
    constructor
    · intro hm
      rcases hz.mp (.inr hm) with e | e
      · have := h1.1 z hm; omega
      · exact e
    · intro hm
      rcases hz.mpr (.inr hm) with e | e
      · have := h2.1 z hm; omega
      · exact e
theorem imgP_perm {σ t : List Int} : (imgP σ t).Perm (t.map (atL σ)) := isort_perm _ _
theorem imgP_mem {σ t : List Int} {q : Int} : q ∈ imgP σ t ↔ ∃ p ∈ t, atL σ p = q := by
  rw [imgP_perm.mem_iff, List.mem_map]
section
variable {m : Int} {ts rs : List (List Int)} {σ : List Int}
theorem IsTurn.in_img (h : IsTurn m ts rs σ) {t : List Int} (ht : ∀ p ∈ t, 0 ≤ p ∧ p ≤ m - 1) {p : Int} (hp : 0 ≤ p ∧ p < m) : atL σ p ∈ imgP σ t ↔ p ∈ t := by
  rw [imgP_mem]
  constructor
  · rintro ⟨q, hq, e⟩
    have := ht q hq
    rw [h.inj (p := q) (q := p) (by omega) hp e] at hq
    exact hq
  · intro hm; exact ⟨p, hm, rfl⟩
theorem IsTurn.img_inj (h : IsTurn m ts rs σ) {s : Nat} {t u : List Int} (ht : El s m t) (hu : El s m u) (e : imgP σ t = imgP σ u) : t = u := by
  refine pw_eq ht.pw hu.pw fun x => ?_
  constructor
  · intro hx
    have r := ht.rng x hx
    have : atL σ x ∈ imgP σ t := (h.in_img ht.rng (by omega)).mpr hx
    rw [e] at this
    exact (h.in_img hu.rng (by omega)).mp this
  · intro hx
    have r := hu.rng x hx
    have : atL σ x ∈ imgP σ u := (h.in_img hu.rng (by omega)).mpr hx
    rw [← e] at this
    exact (h.in_img ht.rng (by omega)).mp this
theorem IsTurn.img_perm (h : IsTurn m ts rs σ) {s : Nat} {js : List (List Int)} (g : Good s m js) (hj : ∀ t ∈ js, imgP σ t ∈ js) : (js.map (imgP σ)).Perm js := by
  refine nodup_sub ?_ (fun x hx => ?_) (by simp)
  · have : js.Pairwise (fun a b => imgP σ a ≠ imgP σ b) := by
      have hn : js.Pairwise (· ≠ ·) := g.nodup
      refine (List.Pairwise.and_mem.mp hn).imp fun {a b} hab e => ?_
      exact hab.2.2 (h.img_inj (g.el a hab.1) (g.el b hab.2.1) e)
    exact List.Pairwise.map _ (fun a b hab => hab) this
  · obtain ⟨t, ht, rfl⟩ := List.mem_map.mp hx
    exact hj t ht
theorem IsTurn.img_iff (h : IsTurn m ts rs σ) {s : Nat} {js : List (List Int)} (g : Good s m js) (hj : ∀ t ∈ js, imgP σ t ∈ js) {t : List Int} (ht : El s m t) : imgP σ t ∈ js ↔ t ∈ js := by
  constructor
  · intro hm
    rw [← (h.img_perm g hj).mem_iff, List.mem_map] at hm
    obtain ⟨u, hu, e⟩ := hm
    rw [h.img_inj ht (g.el u hu) e.symm]
    exact hu
  · exact hj t
theorem fullR_img (h : IsTurn m ts rs σ) {ms : List (Option Bool)} (hl : (ms.length : Int) = m) {s : Nat} {r : List Int} (hr : El s m r) (b : Bool) : fullR (turnM σ ms) b (imgP σ r) = fullR ms b r := by
  have e : ∀ (q : Int → Bool) (xs ys : List Int), xs.Perm ys → xs.all q = ys.all q := fun q xs ys p => by
    rw [Bool.eq_iff_iff, List.all_eq_true, List.all_eq_true]
    exact ⟨fun h x hx => h x (p.mem_iff.mpr hx), fun h x hx => h x (p.mem_iff.mp hx)⟩
  unfold fullR
  rw [e _ _ _ imgP_perm, List.all_map, Bool.eq_iff_iff, List.all_eq_true, List.all_eq_true]
  have k : ∀ p ∈ r, (turnM σ ms).getD (atL σ p).toNat none = ms.getD p.toNat none := fun p hp => by
    have rr := hr.rng p hp
    exact atM_turn h hl ⟨rr.1, by omega⟩
  constructor
  · intro hh p hp
    have := hh p hp
    simp only [Function.comp] at this
    rwa [k p hp] at this
  · intro hh p hp
    simp only [Function.comp]
    rw [k p hp]
    exact hh p hp
theorem rows_turn (h : IsTurn m ts rs σ) (g3 : Good 3 m rs) {ms : List (Option Bool)} (hl : (ms.length : Int) = m) (w : Bool) : (rowsP rs (turnM σ ms) w).Perm ((rowsP rs ms w).map (imgP σ)) := by
  unfold rowsP
  refine ((h.img_perm g3 h.rows).symm.filter _).trans ?_
  rw [List.filter_map]
  have : rs.filter (fullR (turnM σ ms) w ∘ imgP σ) = rs.filter (fullR ms w) := List.filter_congr fun r hr => fullR_img h hl (g3.el r hr) w
  rw [this]
theorem any_turn (h : IsTurn m ts rs σ) (g3 : Good 3 m rs) {ms : List (Option Bool)} (hl : (ms.length : Int) = m) (w : Bool) {p : Int} (hp : 0 ≤ p ∧ p < m) : (rowsP rs (turnM σ ms) w).any (inR (atL σ p)) = (rowsP rs ms w).any (inR p) := by
  have e : (rowsP rs (turnM σ ms) w).any (inR (atL σ p)) = ((rowsP rs ms w).map (imgP σ)).any (inR (atL σ p)) := by
    rw [Bool.eq_iff_iff, List.any_eq_true, List.any_eq_true]
    exact ⟨fun ⟨x, hx, hy⟩ => ⟨x, (rows_turn h g3 hl w).mem_iff.mp hx, hy⟩, fun ⟨x, hx, hy⟩ => ⟨x, (rows_turn h g3 hl w).mem_iff.mpr hx, hy⟩⟩
  rw [e, List.any_map, Bool.eq_iff_iff, List.any_eq_true, List.any_eq_true]
  have k : ∀ r ∈ rowsP rs ms w, (inR (atL σ p) ∘ imgP σ) r = inR p r := fun r hr => by
    have el := g3.el r (List.mem_filter.mp hr).1
    simp only [Function.comp, inR]
    rw [decide_eq_decide]
    exact h.in_img el.rng hp
  exact ⟨fun ⟨x, hx, hy⟩ => ⟨x, hx, by rw [← k x hx]; exact hy⟩, fun ⟨x, hx, hy⟩ => ⟨x, hx, by rw [k x hx]; exact hy⟩⟩
theorem idxs_turn (h : IsTurn m ts rs σ) {ms : List (Option Bool)} (hl : (ms.length : Int) = m) (q : Option Bool → Bool) : (idxs q (turnM σ ms)).Perm ((idxs q ms).map (atL σ)) := by
  refine perm_mem idxs_nodup ?_ fun x => ?_
  · have hn : (idxs q ms).Pairwise (· ≠ ·) := idxs_nodup
    have : (idxs q ms).Pairwise (fun a b => atL σ a ≠ atL σ b) := (List.Pairwise.and_mem.mp hn).imp fun {a b} hab e => by
      have ha := idxs_mem.mp hab.1
      have hb := idxs_mem.mp hab.2.1
      exact hab.2.2 (h.inj (p := a) (q := b) (by omega) (by omega) e)
    exact List.Pairwise.map _ (fun a b hab => hab) this
  · rw [idxs_mem, turnM_len, List.mem_map]
    constructor
    · rintro ⟨h0, h1, h2⟩
      obtain ⟨p, p0, p1, rfl⟩ := h.surj (q := x) (by omega)
      rw [atM_turn h hl ⟨p0, p1⟩] at h2
      exact ⟨p, idxs_mem.mpr ⟨p0, by omega, h2⟩, rfl⟩
    · rintro ⟨p, hp, rfl⟩
      obtain ⟨p0, p1, p2⟩ := idxs_mem.mp hp
      have r := h.at_rng (p := p) (by omega)
      exact ⟨r.1, by omega, by rw [atM_turn h hl ⟨p0, by omega⟩]; exact p2⟩
end
end Ev

namespace Ev
/-! ### moves turned -/
def tauP (σ : List Int) (p : Int) : Int := if p < 0 then -1 else atL σ p
theorem perm_flat {α β : Type} {f g : α → List β} {xs ys : List α} (h : xs.Perm ys) (e : ∀ x ∈ xs, (f x).Perm (g x)) : (xs.flatMap f).Perm (ys.flatMap g) :=
  (perm_flatMap e).trans (List.Perm.flatMap_right _ h)
theorem perm_empty {α : Type} {xs ys : List α} (h : xs.Perm ys) : xs.isEmpty = ys.isEmpty := by
  have := h.length_eq
  cases xs <;> cases ys <;> simp_all
section
variable {m : Int} {ts rs : List (List Int)} {σ : List Int}
theorem tau_pos {p : Int} (h : 0 ≤ p) : tauP σ p = atL σ p := by unfold tauP; rw [if_neg (by omega)]
theorem tau_neg {p : Int} (h : p < 0) : tauP σ p = -1 := by unfold tauP; rw [if_pos h]
theorem step_turn (h : IsTurn m ts rs σ) {ms : List (Option Bool)} (hl : (ms.length : Int) = m) {b g : Int} {w : Bool} (hb : -1 ≤ b ∧ b < m) (hg : 0 ≤ g ∧ g < m) : stepM (turnM σ ms) (tauP σ b) (atL σ g) w = turnM σ (stepM ms b g w) := by
  have hgr := h.at_rng hg
  have hbr : -1 ≤ tauP σ b ∧ tauP σ b < m := by
    by_cases h0 : b < 0
    · rw [tau_neg h0]; omega
    · rw [tau_pos (by omega)]; have := h.at_rng (p := b) (by omega); omega
  refine turnM_uniq h (by rw [stepM_len]; exact hl) (by rw [stepM_len, turnM_len]; exact hl) fun p p0 p1 => ?_
  have hpr := h.at_rng (p := p) ⟨p0, p1⟩
  rw [atM_stepM (by rw [turnM_len]; omega) (by rw [turnM_len]; omega) hpr.1, atM_stepM (by omega) (by omega) p0, atM_turn h hl ⟨p0, p1⟩]
  by_cases e1 : p = g
  · rw [if_pos (by rw [e1]), if_pos e1]
  · rw [if_neg (fun e => e1 (h.inj ⟨p0, p1⟩ hg e)), if_neg e1]
    by_cases e2 : p = b
    · rw [if_pos (by rw [← e2, tau_pos p0]), if_pos e2]
    · rw [if_neg ?_, if_neg e2]
      intro e
      by_cases h0 : b < 0
      · rw [tau_neg h0] at e; omega
      · rw [tau_pos (by omega)] at e
        exact e2 (h.inj (q := b) ⟨p0, p1⟩ (by omega) e)
theorem free_turn (h : IsTurn m ts rs σ) (g3 : Good 3 m rs) {ms : List (Option Bool)} (hl : (ms.length : Int) = m) (w : Bool) : (freeP rs (turnM σ ms) w).Perm ((freeP rs ms w).map (atL σ)) := by
  unfold freeP
  refine ((idxs_turn h hl (isMan !w)).filter _).trans ?_
  rw [List.filter_map]
  have : (idxs (isMan !w) ms).filter ((fun p => !((rowsP rs (turnM σ ms) !w).any (inR p))) ∘ atL σ) = (idxs (isMan !w) ms).filter (fun p => !((rowsP rs ms !w).any (inR p))) := List.filter_congr fun p hp => by
    have := idxs_mem.mp hp
    simp only [Function.comp]
    rw [any_turn h g3 hl (!w) (by omega)]
  rw [this]
theorem map_tau {xs : List Int} (h : ∀ p ∈ xs, 0 ≤ p) : xs.map (tauP σ) = xs.map (atL σ) := List.map_congr_left fun p hp => tau_pos (h p hp)
theorem tak_turn (h : IsTurn m ts rs σ) (g3 : Good 3 m rs) {ms : List (Option Bool)} (hl : (ms.length : Int) = m) {g : Int} (hg : 0 ≤ g ∧ g < m) (w : Bool) : (takP rs (turnM σ ms) (atL σ g) w).Perm ((takP rs ms g w).map (tauP σ)) := by
  unfold takP
  rw [any_turn h g3 hl w hg]
  have e1 := perm_empty (free_turn h g3 hl w)
  have e2 := perm_empty (idxs_turn h hl (isMan !w))
  rw [List.isEmpty_map] at e1 e2
  rw [e1, e2]
  have nn : ∀ p ∈ idxs (isMan !w) ms, 0 ≤ p := fun p hp => (idxs_mem.mp hp).1
  have t1 : [(-1 : Int)].map (tauP σ) = [-1] := rfl
  cases (rowsP rs ms w).any (inR g)
  · simp only [Bool.false_eq_true, if_false]; rw [t1]
  · cases (freeP rs ms w).isEmpty
    · simp only [if_true, Bool.false_eq_true, if_false]
      have hm : (freeP rs ms w).map (tauP σ) = (freeP rs ms w).map (atL σ) := map_tau fun p hp => by
        unfold freeP at hp
        exact nn p (List.mem_filter.mp hp).1
      rw [hm]
      exact free_turn h g3 hl w
    · cases (idxs (isMan !w) ms).isEmpty
      · simp only [if_true, Bool.false_eq_true, if_false]
        rw [map_tau nn]
        exact idxs_turn h hl _
      · simp only [if_true]; rw [t1]
theorem tie_turn (h : IsTurn m ts rs σ) (g2 : Good 2 m ts) {b g : Int} (hb : 0 ≤ b ∧ b < m) (hg : 0 ≤ g ∧ g < m) (hne : b ≠ g) : decide (tieOf (atL σ b) (atL σ g) ∈ ts) = decide (tieOf b g ∈ ts) := by
  have el : El 2 m (tieOf b g) := by
    refine ⟨rfl, fun p hp => ?_, ?_⟩
    · unfold tieOf at hp
      simp only [List.mem_cons, List.not_mem_nil, or_false] at hp
      rcases hp with rfl | rfl <;> split <;> omega
    · unfold tieOf
      simp only [ris, ltB, Bool.and_true, decide_eq_true_eq]
      split <;> split <;> omega
  have hne2 : atL σ b ≠ atL σ g := fun e => hne (h.inj hb hg e)
  have e : imgP σ (tieOf b g) = tieOf (atL σ b) (atL σ g) := by
    refine pw_eq (El.pw (s := 2) (m := m) ?_) (El.pw (s := 2) (m := m) ?_) fun x => ?_
    · have hp := imgP_perm (σ := σ) (t := tieOf b g)
      refine ⟨by rw [hp.length_eq]; rfl, fun q hq => ?_, ?_⟩
      · obtain ⟨p, hpm, rfl⟩ := imgP_mem.mp hq
        have := el.rng p hpm
        have := h.at_rng (p := p) (by omega)
        omega
      · unfold imgP sortI tieOf
        by_cases c : g < b
        · have c2 : ¬ g > b := by omega
          simp only [if_pos c, if_neg c2, List.map_cons, List.map_nil, isort, List.foldr, insS]
          split
          · rename_i hle; simp only [ris, ltB, Bool.and_true, decide_eq_true_eq] at *; omega
          · rename_i hle; simp only [ris, ltB, Bool.and_true, decide_eq_true_eq] at *; omega
        · have c2 : g > b := by omega
          simp only [if_neg c, if_pos c2, List.map_cons, List.map_nil, isort, List.foldr, insS]
          split
          · rename_i hle; simp only [ris, ltB, Bool.and_true, decide_eq_true_eq] at *; omega
          · rename_i hle; simp only [ris, ltB, Bool.and_true, decide_eq_true_eq] at *; omega
    · have r1 := h.at_rng hb
      have r2 := h.at_rng hg
      refine ⟨rfl, fun p hp => ?_, ?_⟩
      · unfold tieOf at hp
        simp only [List.mem_cons, List.not_mem_nil, or_false] at hp
        rcases hp with rfl | rfl <;> split <;> omega
      · unfold tieOf
        simp only [ris, ltB, Bool.and_true, decide_eq_true_eq]
        split <;> split <;> omega
    · rw [imgP_mem]
      unfold tieOf
      simp only [List.mem_cons, List.not_mem_nil, or_false]
      constructor
      · rintro ⟨p, hp | hp, rfl⟩
        · subst hp; split <;> split <;> split <;> simp_all <;> omega
        · subst hp; split <;> split <;> split <;> simp_all <;> omega
      · intro hx
        by_cases hxb : x = atL σ b
        · exact ⟨b, by split <;> split <;> simp_all <;> omega, hxb.symm⟩
        · exact ⟨g, by split <;> split <;> simp_all <;> omega, by rcases hx with hx | hx <;> split at hx <;> simp_all⟩
  rw [← e, decide_eq_decide]
  exact h.img_iff g2 h.ties el
theorem goals_turn (h : IsTurn m ts rs σ) (g2 : Good 2 m ts) {ms : List (Option Bool)} (hl : (ms.length : Int) = m) {b : Int} {w : Bool} (hb : b ∈ idxs (isMan w) ms) : (lgoalsP ts (turnM σ ms) w (atL σ b)).Perm ((lgoalsP ts ms w b).map (atL σ)) := by
  unfold lgoalsP
  refine ((idxs_turn h hl (·.isNone)).filter _).trans ?_
  rw [List.filter_map]
  have hc : (idxs (isMan w) (turnM σ ms)).length = (idxs (isMan w) ms).length := by rw [(idxs_turn h hl _).length_eq, List.length_map]
  rw [hc]
  have hbm := idxs_mem.mp hb
  have : (idxs (·.isNone) ms).filter ((fun g => decide ((idxs (isMan w) ms).length < 4) || decide (tieOf (atL σ b) g ∈ ts)) ∘ atL σ) = (idxs (·.isNone) ms).filter (fun g => decide ((idxs (isMan w) ms).length < 4) || decide (tieOf b g ∈ ts)) := List.filter_congr fun g hg => by
    have hgm := idxs_mem.mp hg
    simp only [Function.comp]
    rw [tie_turn h g2 (by omega) (by omega) fun e => by
      subst e
      have h1 := hbm.2.2
      have h2 := hgm.2.2
      unfold isMan at h1
      rw [of_decide_eq_true h1] at h2
      cases h2]
  rw [this]
theorem steps_turn (h : IsTurn m ts rs σ) (g2 : Good 2 m ts) {ms : List (Option Bool)} (hl : (ms.length : Int) = m) (l : Int) (w : Bool) : (lstepsP ts (turnM σ ms) l w).Perm ((lstepsP ts ms l w).map fun s => (tauP σ s.1, atL σ s.2)) := by
  unfold lstepsP
  split
  · refine ((idxs_turn h hl (·.isNone)).map _).trans ?_
    rw [List.map_map, List.map_map]
    exact .refl _
  · refine (perm_flat (idxs_turn h hl (isMan w)) fun _ _ => .refl _).trans ?_
    rw [List.map_flatMap, List.flatMap_map]
    refine perm_flatMap fun b hb => ?_
    refine ((goals_turn h g2 hl hb).map _).trans ?_
    rw [List.map_map, List.map_map]
    have : (idxs_mem.mp hb).1 = (idxs_mem.mp hb).1 := rfl
    have e : tauP σ b = atL σ b := tau_pos (idxs_mem.mp hb).1
    simp only [Function.comp_def, e]
    exact .refl _
theorem lsteps_rng {ms : List (Option Bool)} (hl : (ms.length : Int) = m) {l : Int} {w : Bool} {s : Int × Int} (hs : s ∈ lstepsP ts ms l w) : -1 ≤ s.1 ∧ s.1 < m ∧ 0 ≤ s.2 ∧ s.2 < m := by
  unfold lstepsP at hs
  split at hs
  · obtain ⟨g, hg, rfl⟩ := List.mem_map.mp hs
    have := idxs_mem.mp hg
    exact ⟨by simp, by simp; omega, this.1, by omega⟩
  · obtain ⟨b, hb, hs⟩ := List.mem_flatMap.mp hs
    obtain ⟨g, hg, rfl⟩ := List.mem_map.mp hs
    have h1 := idxs_mem.mp hb
    unfold lgoalsP at hg
    have h2 := idxs_mem.mp (List.mem_filter.mp hg).1
    exact ⟨by simp; omega, by simp; omega, h2.1, by simp; omega⟩
theorem of_turn (h : IsTurn m ts rs σ) (g3 : Good 3 m rs) {ms : List (Option Bool)} (hl : (ms.length : Int) = m) (w : Bool) {ss : List (Int × Int)} (hs : ∀ s ∈ ss, -1 ≤ s.1 ∧ s.1 < m ∧ 0 ≤ s.2 ∧ s.2 < m) : (movesOf rs (turnM σ ms) w (ss.map fun s => (tauP σ s.1, atL σ s.2))).Perm ((movesOf rs ms w ss).map (List.map (tauP σ))) := by
  unfold movesOf
  rw [List.flatMap_map, List.map_flatMap]
  refine perm_flatMap fun s hm => ?_
  obtain ⟨a, b, c, d⟩ := hs s hm
  rw [step_turn h hl ⟨a, b⟩ ⟨c, d⟩]
  refine ((tak_turn h g3 (by rw [stepM_len]; exact hl) ⟨c, d⟩ w).map _).trans ?_
  rw [List.map_map, List.map_map]
  have e : tauP σ s.2 = atL σ s.2 := tau_pos c
  simp only [Function.comp_def, List.map_cons, List.map_nil, e]
  exact .refl _
theorem win_turn (h : IsTurn m ts rs σ) (g2 : Good 2 m ts) {ms : List (Option Bool)} (hl : (ms.length : Int) = m) (l : Int) (w : Bool) : winP ts (turnM σ ms) l w = winP ts ms l w := by
  unfold winP
  have hc : (idxs (isMan w) (turnM σ ms)).length = (idxs (isMan w) ms).length := by rw [(idxs_turn h hl _).length_eq, List.length_map]
  have e := perm_empty (steps_turn h g2 hl l w)
  rw [List.isEmpty_map] at e
  rw [hc, ← steps_empty g2 (by rw [turnM_len]; exact hl), ← steps_empty g2 hl, e]
theorem moves_turn (h : IsTurn m ts rs σ) (g2 : Good 2 m ts) (g3 : Good 3 m rs) {ms : List (Option Bool)} (hl : (ms.length : Int) = m) (l : Int) (w : Bool) : movesP ts rs (turnM σ ms) l w = sortT ((movesP ts rs ms l w).map (List.map (tauP σ))) := by
  unfold movesP
  rw [win_turn h g2 hl]
  cases winP ts ms l w
  · simp only [Bool.false_eq_true, if_false]
    rw [moves_eq g2 (by rw [turnM_len]; exact hl), moves_eq g2 hl]
    refine sortT_perm ?_
    refine (List.Perm.flatMap_right _ (steps_turn h g2 hl l w)).trans ?_
    refine (of_turn h g3 hl w fun s hs => lsteps_rng hl hs).trans ?_
    exact ((isort_perm _ _).symm).map _
  · simp only [if_true]; rfl
end
end Ev

namespace Ev
/-! ### stands turned -/
def Sta.turn (σ : List Int) (s : Sta) : Sta := ⟨turnM σ s.ms, s.a, s.b, s.w⟩
section
variable {m : Int} {ts rs : List (List Int)} {σ : List Int} {s : Sta}
theorem turn_len (hl : (s.ms.length : Int) = m) : (((s.turn σ).ms.length : Nat) : Int) = m := by
  show ((turnM σ s.ms).length : Int) = m
  rw [turnM_len]; exact hl
theorem mvs_turn (h : IsTurn m ts rs σ) (g2 : Good 2 m ts) (g3 : Good 3 m rs) (hl : (s.ms.length : Int) = m) : mvs ts rs (s.turn σ) = sortT ((mvs ts rs s).map (List.map (tauP σ))) := moves_turn h g2 g3 hl s.lf s.w
theorem won_turn (h : IsTurn m ts rs σ) (g2 : Good 2 m ts) (hl : (s.ms.length : Int) = m) : won ts (s.turn σ) = won ts s := win_turn h g2 hl s.lf s.w
theorem atM_unset {ms : List (Option Bool)} {t : Int} {o : Option Bool} {x : Int} (ht : t < ms.length) (hx : 0 ≤ x) : atM (if 0 ≤ t then ms.set t.toNat o else ms) x = if 0 ≤ t ∧ x = t then o else atM ms x := by
  by_cases h : 0 ≤ t
  · rw [if_pos h, atM_set ⟨h, ht⟩ hx]; simp [h]
  · rw [if_neg h, if_neg (fun e => h e.1)]
theorem after_turn (h : IsTurn m ts rs σ) {ms : List (Option Bool)} (hl : (ms.length : Int) = m) {b g t : Int} {w : Bool} (hb : -1 ≤ b ∧ b < m) (hg : 0 ≤ g ∧ g < m) (ht : -1 ≤ t ∧ t < m) : afterM (turnM σ ms) (tauP σ b) (atL σ g) (tauP σ t) w = turnM σ (afterM ms b g t w) := by
  have e0 := step_turn h hl (w := w) hb hg
  unfold afterM
  rw [e0]
  have hs : ((stepM ms b g w).length : Int) = m := by rw [stepM_len]; exact hl
  have htr : -1 ≤ tauP σ t ∧ tauP σ t < m ∧ (0 ≤ tauP σ t ↔ 0 ≤ t) := by
    by_cases h0 : t < 0
    · rw [tau_neg h0]; omega
    · rw [tau_pos (by omega)]; have := h.at_rng (p := t) (by omega); omega
  refine turnM_uniq h (ms := if 0 ≤ t then (stepM ms b g w).set t.toNat none else stepM ms b g w) (by split <;> simp [hs]) (by split <;> simp [turnM_len, hs]) fun p p0 p1 => ?_
  have hpr := h.at_rng (p := p) ⟨p0, p1⟩
  rw [atM_unset (by rw [turnM_len]; omega) hpr.1, atM_unset (by omega) p0, atM_turn h hs ⟨p0, p1⟩]
  by_cases h0 : 0 ≤ t
  · by_cases e : p = t
    · rw [if_pos ⟨htr.2.2.mpr h0, by rw [e, tau_pos h0]⟩, if_pos ⟨h0, e⟩]
    · rw [if_neg (fun z => e (h.inj (q := t) ⟨p0, p1⟩ (by omega) (by rw [← tau_pos h0]; exact z.2))), if_neg (fun z => e z.2)]
  · rw [if_neg (fun z => h0 (htr.2.2.mp z.1)), if_neg (fun z => h0 z.1)]
theorem nxt_turn (h : IsTurn m ts rs σ) (g2 : Good 2 m ts) (hl : (s.ms.length : Int) = m) {mv : List Int} (hm : mv ∈ mvs ts rs s) : (s.turn σ).nxt (mv.map (tauP σ)) = (s.nxt mv).turn σ := by
  obtain ⟨x, y, z, rfl, k⟩ := mvs_mem g2 hl hm
  have hx : -1 ≤ x ∧ x < m := by rcases k.bb with k | k <;> omega
  have hy : 0 ≤ y ∧ y < m := by have := k.g0; omega
  have hz : -1 ≤ z ∧ z < m := by rcases k.tt with k | k <;> omega
  have e := after_turn h hl (w := s.w) hx hy hz
  have ey : tauP σ y = atL σ y := tau_pos hy.1
  have hneg : tauP σ x < 0 ↔ x < 0 := by
    by_cases h0 : x < 0
    · rw [tau_neg h0]; omega
    · rw [tau_pos (by omega)]; have := h.at_rng (p := x) (by omega); omega
  show Sta.mk (afterM (turnM σ s.ms) (tauP σ x) (tauP σ y) (tauP σ z) s.w) (lessA (tauP σ x) s.a s.w) (lessB (tauP σ x) s.b s.w) (!s.w) = Sta.mk (turnM σ (afterM s.ms x y z s.w)) (lessA x s.a s.w) (lessB x s.b s.w) (!s.w)
  rw [ey, e]
  unfold lessA lessB
  simp only [hneg]
theorem cnt_turn (h : IsTurn m ts rs σ) {ms : List (Option Bool)} (hl : (ms.length : Int) = m) (q : Option Bool → Bool) : (idxs q (turnM σ ms)).length = (idxs q ms).length := by
  rw [(idxs_turn h hl q).length_eq, List.length_map]
end
/-! ### stands compared -/
theorem eqv_man2 (o p : Option Bool) : eqv (manD o) (manD p) = decide (o = p) := by
  cases o with
  | none => cases p with
    | none => rfl
    | some b => cases b <;> rfl
  | some a => cases p with
    | none => cases a <;> rfl
    | some b => cases a <;> cases b <;> rfl
theorem eqvAll_men : ∀ xs ys : List (Option Bool), PySem.PyData.eqvAll (toPys (mensD xs)) (toPys (mensD ys)) = decide (xs = ys)
  | [], [] => by simp [mensD, toPys, PySem.PyData.eqvAll]
  | [], _ :: _ => by simp [mensD, toPys, PySem.PyData.eqvAll]
  | _ :: _, [] => by simp [mensD, toPys, PySem.PyData.eqvAll]
  | x :: xs, y :: ys => by
    have h1 := eqv_man2 x y
    unfold eqv at h1
    have h2 := eqvAll_men xs ys
    unfold mensD at h2
    simp only [mensD, List.map_cons, toPys, PySem.PyData.eqvAll, h1, h2, List.cons.injEq, Bool.decide_and]
theorem eqv_sta (s t : Sta) : eqv s.d t.d = decide (s.ms = t.ms ∧ s.a = t.a ∧ s.b = t.b ∧ s.w = t.w) := by
  have h1 := eqvAll_men s.ms t.ms
  have h2 : decide (whoI s.w = whoI t.w) = decide (s.w = t.w) := by cases s.w <;> cases t.w <;> rfl
  unfold eqv Sta.d standD
  simp [toPy, toPys, PySem.PyData.eqv, PySem.PyData.eqvAll, h1, Bool.beq_eq_decide_eq, h2, Bool.and_assoc]
theorem shape_sta' (s : Sta) : shape s.d = true := by
  unfold shape Sta.d standD
  simp [shap, shaps, shaps_men]
theorem q_eqSt (s t : Sta) : cmpop .eq s.d t.d = .ok (.bl (decide (s.ms = t.ms ∧ s.a = t.a ∧ s.b = t.b ∧ s.w = t.w))) := by
  show chk (shape s.d && shape t.d) (R.ok (D.bl (eqv s.d t.d))) = _
  rw [shape_sta', shape_sta', eqv_sta]; rfl
end Ev

namespace Ev
/-! ### the turn back -/
section
variable {m : Int} {ts rs : List (List Int)} {σ : List Int}
theorem img_pw {τ t : List Int} (h : t.Pairwise (fun a b => atL τ a ≠ atL τ b)) : (imgP τ t).Pairwise (· < ·) := by
  have h1 : (imgP τ t).Pairwise (fun a b => decide (a ≤ b) = true) := by
    unfold imgP
    rw [sortI_ms]
    exact List.pairwise_mergeSort (fun a b c h1 h2 => by simp at *; omega) (fun a b => by simp; omega) _
  have h2 : (imgP τ t).Nodup := imgP_perm.nodup_iff.mpr (List.Pairwise.map _ (fun a b h => h) h)
  exact (h1.and h2).imp fun {a b} h => by
    have := h.1
    have := h.2
    simp at *
    omega
def invL (m : Int) (σ : List Int) : List Int := (ptsP m).map fun q => ((σ.idxOf q : Nat) : Int)
theorem inv_at {q : Int} (hq : 0 ≤ q ∧ q < m) : atL (invL m σ) q = (σ.idxOf q : Nat) := by
  unfold atL invL ptsP
  rw [List.getD_eq_getElem?_getD, List.map_map, List.getElem?_map, List.getElem?_range (by omega)]
  simp only [Option.map_some, Option.getD_some, Function.comp]
  have : ((q.toNat : Nat) : Int) = q := by omega
  rw [this]
theorem IsTurn.there (h : IsTurn m ts rs σ) {q : Int} (hq : 0 ≤ q ∧ q < m) : q ∈ σ := h.perm.mem_iff.mpr (pts_mem.mpr hq)
theorem at_inv (h : IsTurn m ts rs σ) {q : Int} (hq : 0 ≤ q ∧ q < m) : atL σ (atL (invL m σ) q) = q := by
  rw [inv_at hq]
  have hl := List.idxOf_lt_length_iff.mpr (h.there hq)
  rw [atL_get ⟨by omega, by omega⟩]
  simp
theorem inv_rng (h : IsTurn m ts rs σ) {q : Int} (hq : 0 ≤ q ∧ q < m) : 0 ≤ atL (invL m σ) q ∧ atL (invL m σ) q < m := by
  rw [inv_at hq]
  have hl := List.idxOf_lt_length_iff.mpr (h.there hq)
  have := h.len
  omega
theorem inv_of (h : IsTurn m ts rs σ) {p : Int} (hp : 0 ≤ p ∧ p < m) : atL (invL m σ) (atL σ p) = p :=
  h.inj (inv_rng h (h.at_rng hp)) hp (at_inv h (h.at_rng hp))
theorem inv_turn (h : IsTurn m ts rs σ) (g2 : Good 2 m ts) (g3 : Good 3 m rs) (h0 : 0 ≤ m) : IsTurn m ts rs (invL m σ) := by
  have key : ∀ {s : Nat} {js : List (List Int)}, Good s m js → (∀ t ∈ js, imgP σ t ∈ js) → ∀ t ∈ js, imgP (invL m σ) t ∈ js := fun {s js} g hj t ht => by
    have hm := (h.img_perm g hj).mem_iff.mpr ht
    obtain ⟨u, hu, rfl⟩ := List.mem_map.mp hm
    have eu := g.el u hu
    have et := g.el _ (hj u hu)
    have : imgP (invL m σ) (imgP σ u) = u := by
      refine pw_eq (img_pw ?_) eu.pw fun x => ?_
      · refine (List.Pairwise.and_mem.mp et.nd).imp fun {a b} hab e => ?_
        have ra := et.rng a hab.1
        have rb := et.rng b hab.2.1
        have e2 := congrArg (atL σ) e
        rw [at_inv h (by omega), at_inv h (by omega)] at e2
        exact hab.2.2 e2
      · rw [imgP_mem]
        constructor
        · rintro ⟨y, hy, rfl⟩
          obtain ⟨p, hp, rfl⟩ := imgP_mem.mp hy
          have rp := eu.rng p hp
          rw [inv_of h (by omega)]
          exact hp
        · intro hx
          have rx := eu.rng x hx
          exact ⟨atL σ x, imgP_mem.mpr ⟨x, hx, rfl⟩, inv_of h (by omega)⟩
    rw [this]; exact hu
  refine ⟨by unfold invL ptsP; simp; omega, fun g hg => ?_, ?_, key g2 h.ties, key g3 h.rows⟩
  · unfold invL at hg
    obtain ⟨q, hq, rfl⟩ := List.mem_map.mp hg
    have hl := List.idxOf_lt_length_iff.mpr (h.there (pts_mem.mp hq))
    have := h.len
    omega
  · unfold invL
    have hn : (ptsP m).Pairwise (· ≠ ·) := pts_nodup m
    have : (ptsP m).Pairwise (fun a b => ((σ.idxOf a : Nat) : Int) ≠ (σ.idxOf b : Nat)) := (List.Pairwise.and_mem.mp hn).imp fun {a b} hab e => by
      have ra := pts_mem.mp hab.1
      have rb := pts_mem.mp hab.2.1
      rw [← inv_at (σ := σ) ra, ← inv_at (σ := σ) rb] at e
      have e2 := congrArg (atL σ) e
      rw [at_inv h ra, at_inv h rb] at e2
      exact hab.2.2 e2
    exact List.Pairwise.map _ (fun a b h => h) this
theorem turn_back (h : IsTurn m ts rs σ) (g2 : Good 2 m ts) (g3 : Good 3 m rs) (h0 : 0 ≤ m) {ms : List (Option Bool)} (hl : (ms.length : Int) = m) : turnM (invL m σ) (turnM σ ms) = ms := by
  symm
  refine turnM_uniq (inv_turn h g2 g3 h0) (by rw [turnM_len]; exact hl) hl fun q q0 q1 => ?_
  obtain ⟨p, p0, p1, rfl⟩ := h.surj (q := q) ⟨q0, q1⟩
  rw [inv_of h ⟨p0, p1⟩, atM_turn h hl ⟨p0, p1⟩]
end
end Ev

namespace Ev
open PySem TL
@[simp] theorem x_pick {C : Cl} {kvs : List (D × D)} {i : E} {env : Env} : eval C (.pick kvs i) env = (eval C i env).bind fun y => subD (.tab kvs) y := rfl
@[simp] theorem s_asgL0 {C : Cl} {is : List Nat} {e : E} {os : List Nat} {se : SEnv} : exec C (.asgL is e os) se = (eval C e (vals (demote os se))).bind fun d => (setTS (.tup is) (unL d) (prep os d se)).bind fun env' => .ok (.nx env') := rfl
@[simp] theorem unL_l {ds : List D} : unL (.lst ds) = .tup ds := rfl
/-! ### texts -/
def mkS (l : List Nat) : Str := ⟨l.toArray⟩
def strD (l : List Nat) : D := .str (mkS l)
theorem tl_mkS (l : List Nat) : tl (mkS l) = l := rfl
theorem mkS_tl (z : Str) : mkS (tl z) = z := TL.mk_tl z
theorem mkS_inj {l k : List Nat} : mkS l = mkS k ↔ l = k := ⟨fun h => by have := congrArg tl h; exact this, fun h => by rw [h]⟩
theorem mkS_len (l : List Nat) : (mkS l).length = l.length := by rw [TL.len_tl]; rfl
theorem mkS_app (l k : List Nat) : mkS l ++ mkS k = mkS (l ++ k) := ext_tl (by rw [tl_append]; rfl)
theorem strD_inj {l k : List Nat} : strD l = strD k ↔ l = k := ⟨fun h => mkS_inj.mp (by unfold strD at h; injection h), fun h => by rw [h]⟩
theorem add_strD {l k : List Nat} (h : l.length + k.length ≤ LIM) : binop .add (strD l) (strD k) = .ok (strD (l ++ k)) := by
  show chk (decide ((mkS l).length + (mkS k).length ≤ LIM)) (R.ok (D.str (mkS l ++ mkS k))) = _
  rw [mkS_len, mkS_len, mkS_app, decide_eq_true h]; rfl
theorem eqv_str (l k : List Nat) : eqv (strD l) (strD k) = decide (l = k) := by
  show (mkS l == mkS k) = _
  rw [Bool.eq_iff_iff]
  simp [mkS_inj]
theorem len_strD {l : List Nat} (h : l.length ≤ LIM) : blt .len [strD l] = .ok (.int (l.length : Nat)) := by
  show chk (decide ((mkS l).length ≤ LIM)) (R.ok (D.int ((mkS l).length : Nat))) = _
  rw [mkS_len, decide_eq_true h]; rfl
theorem elems_strD {l : List Nat} (h : l.length ≤ LIM) : elems (strD l) = .ok (l.map fun c => strD [c]) := by
  show chk (decide ((mkS l).cps.toList.length ≤ LIM)) (R.ok ((mkS l).cps.toList.map fun c => D.str ⟨#[c]⟩)) = _
  have e : (mkS l).cps.toList = l := rfl
  rw [e, decide_eq_true h]; rfl
/-- signs that == looks at -/
def okL (l : List Nat) : Bool := l.all (· < 1114112)
theorem shap_strD {l : List Nat} (n : Nat) (h : okL l = true) : shap n (strD l) = true := by
  have e : PyData.strOk (mkS l) = true := by
    show (mkS l).cps.all (· < 0x110000) = true
    unfold mkS
    simpa [okL] using h
  unfold strD
  cases n <;> simp [shap, e]
theorem okL_app {l k : List Nat} : okL (l ++ k) = (okL l && okL k) := by unfold okL; rw [List.all_append]
theorem okL_mem {l : List Nat} (h : okL l = true) {c : Nat} (hc : c ∈ l) : okL [c] = true := by
  have := List.all_eq_true.mp h c hc
  simp [okL]
  simpa using this
theorem q_eqStr {l k : List Nat} (h1 : okL l = true) (h2 : okL k = true) : cmpop .eq (strD l) (strD k) = .ok (.bl (decide (l = k))) := by
  show chk (shape (strD l) && shape (strD k)) (R.ok (D.bl (eqv (strD l) (strD k)))) = _
  rw [eqv_str]
  unfold shape
  rw [shap_strD 60 h1, shap_strD 60 h2]; rfl
theorem q_neStr {l k : List Nat} (h1 : okL l = true) (h2 : okL k = true) : cmpop .ne (strD l) (strD k) = .ok (.bl (!decide (l = k))) := by
  show chk (shape (strD l) && shape (strD k)) (R.ok (D.bl (!eqv (strD l) (strD k)))) = _
  rw [eqv_str]
  unfold shape
  rw [shap_strD 60 h1, shap_strD 60 h2]; rfl
theorem split_strD {l : List Nat} (h : l.length + 2 ≤ LIM) : meth .split (strD l) [strD [32]] = .ok (.lst ((spl [32] 0 [] l).map strD)) := by
  show chk (sepB (mkS [32]) && decide ((mkS l).length + 2 ≤ LIM)) (R.ok (D.lst ((spl (tl (mkS [32])) 0 [] (tl (mkS l))).map fun l => .str ⟨l.toArray⟩))) = _
  have e : sepB (mkS [32]) = true := by decide +kernel
  rw [e, mkS_len, decide_eq_true h]; rfl
theorem spl_ne (S : List Nat) : ∀ (l : List Nat) (k : Nat) (acc : List Nat), spl S k acc l ≠ []
  | [], k, acc => by rw [spl_nil]; simp
  | c :: r, 0, acc => by
    unfold spl
    split
    · simp
    · exact spl_ne S r 0 _
  | c :: r, k + 1, acc => by
    unfold spl
    exact spl_ne S r k acc
/-- what is split, joined -/
theorem join_spl : ∀ (l acc : List Nat), joinL [32] (spl [32] 0 acc l) = acc ++ l
  | [], acc => by rw [spl_nil]; simp [joinL]
  | c :: r, acc => by
    by_cases h : c = 32
    · subst h
      have hp : pre [32] (32 :: r) = true := by simp [pre]
      rw [spl_hit hp]
      have ih := join_spl r []
      show joinL [32] (acc :: spl [32] 0 [] r) = _
      cases hs : spl [32] 0 [] r with
      | nil => exact absurd hs (spl_ne _ _ _ _)
      | cons p q =>
        rw [hs] at ih
        show acc ++ ([32] ++ joinL [32] (p :: q)) = _
        rw [ih]; simp
    · have hp : pre [32] (c :: r) = false := by simp [pre, h]
      rw [spl_miss hp, join_spl r]
      simp
theorem spl_ok : ∀ (l acc : List Nat), okL l = true → okL acc = true → ∀ w ∈ spl [32] 0 acc l, okL w = true
  | [], acc, _, h, w, hw => by
    rw [spl_nil] at hw
    simp only [List.mem_cons, List.not_mem_nil, or_false] at hw
    subst hw; exact h
  | c :: r, acc, hl, h, w, hw => by
    have h1 : okL [c] = true ∧ okL r = true := by
      have : okL ([c] ++ r) = true := hl
      rw [okL_app, Bool.and_eq_true] at this
      exact this
    by_cases hc : c = 32
    · subst hc
      have hp : pre [32] (32 :: r) = true := by simp [pre]
      rw [spl_hit hp] at hw
      rcases List.mem_cons.mp hw with rfl | hw
      · exact h
      · exact spl_ok r [] h1.2 rfl w hw
    · have hp : pre [32] (c :: r) = false := by simp [pre, hc]
      rw [spl_miss hp] at hw
      exact spl_ok r (acc ++ [c]) h1.2 (by rw [okL_app, h, h1.1]; rfl) w hw
theorem joinL_len : ∀ ws : List (List Nat), ∀ w ∈ ws, w.length ≤ (joinL [32] ws).length
  | [], w, h => by cases h
  | [p], w, h => by
    simp only [List.mem_cons, List.not_mem_nil, or_false] at h
    subst h; exact Nat.le_refl _
  | p :: q :: r, w, h => by
    show w.length ≤ (p ++ ([32] ++ joinL [32] (q :: r))).length
    simp only [List.length_append]
    rcases List.mem_cons.mp h with rfl | h
    · omega
    · have := joinL_len (q :: r) w h
      omega
theorem spl_len {l w : List Nat} (h : w ∈ spl [32] 0 [] l) : w.length ≤ l.length := by
  have := joinL_len _ w h
  rw [join_spl] at this
  simpa using this
/-! ### signs -/
def sgOf : Option Bool → Nat
  | none => 46
  | some false => 120
  | some true => 111
def isSg (c : Nat) : Bool := decide (c = 46) || decide (c = 120) || decide (c = 111)
def manS (c : Nat) : Option Bool := if c = 120 then some false else if c = 111 then some true else none
theorem man_sg (o : Option Bool) : manS (sgOf o) = o := by
  cases o with
  | none => rfl
  | some b => cases b <;> rfl
theorem sg_is (o : Option Bool) : isSg (sgOf o) = true := by
  cases o with
  | none => rfl
  | some b => cases b <;> rfl
theorem sg_man {c : Nat} (h : isSg c = true) : sgOf (manS c) = c := by
  simp only [isSg, Bool.or_eq_true, decide_eq_true_eq] at h
  rcases h with (rfl | rfl) | rfl <;> rfl
def tabM : List (D × D) := [(.str ".", .non), (.str "x", .int 0), (.str "o", .int 1)]
def tabS : List (D × D) := [(.non, .str "."), (.int 0, .str "x"), (.int 1, .str "o")]
theorem lit_dot : D.str "." = strD [46] := by rfl
theorem lit_x : D.str "x" = strD [120] := by rfl
theorem lit_o : D.str "o" = strD [111] := by rfl
theorem look_M (c : Nat) : look tabM (strD [c]) = if c = 46 then some .non else if c = 120 then some (.int 0) else if c = 111 then some (.int 1) else none := by
  have e1 := eqv_str [46] [c]
  have e2 := eqv_str [120] [c]
  have e3 := eqv_str [111] [c]
  unfold look tabM
  rw [lit_dot, lit_x, lit_o]
  by_cases h1 : c = 46
  · subst h1; simp [e1]
  · by_cases h2 : c = 120
    · subst h2; simp [e1, e2]
    · by_cases h3 : c = 111
      · subst h3; simp [e1, e2, e3]
      · have g1 : ¬ 46 = c := fun h => h1 h.symm
        have g2 : ¬ 120 = c := fun h => h2 h.symm
        have g3 : ¬ 111 = c := fun h => h3 h.symm
        simp [e1, e2, e3, h1, h2, h3, g1, g2, g3]
theorem in_M (c : Nat) : cmpop .inn (strD [c]) (.tab tabM) = .ok (.bl (isSg c)) := by
  show (R.ok (look tabM (strD [c])).isSome).bind (fun k => R.ok (D.bl k)) = _
  rw [look_M]
  unfold isSg
  by_cases h1 : c = 46
  · simp [h1]
  · by_cases h2 : c = 120
    · simp [h2]
    · by_cases h3 : c = 111
      · simp [h3]
      · simp [h1, h2, h3]
theorem sub_M {c : Nat} (h : isSg c = true) : subD (.tab tabM) (strD [c]) = .ok (manD (manS c)) := by
  show orBad (look tabM (strD [c])) = _
  rw [look_M]
  simp only [isSg, Bool.or_eq_true, decide_eq_true_eq] at h
  rcases h with (rfl | rfl) | rfl <;> rfl
theorem sub_S (o : Option Bool) : subD (.tab tabS) (manD o) = .ok (strD [sgOf o]) := by
  cases o with
  | none => rfl
  | some b => cases b <;> rfl
/-! ### numbers -/
def dec (i : Int) : List Nat := if i < 10 then [48 + i.toNat] else [48 + i.toNat / 10, 48 + i.toNat % 10]
theorem dec_all : ∀ n : Fin 100, (Str.ofString (toString ((n.val : Nat) : Int))) = mkS (dec (n.val : Nat)) := by decide +kernel
theorem str_dec {i : Int} (h : 0 ≤ i ∧ i < 100) : blt .str [.int i] = .ok (strD (dec i)) := by
  obtain ⟨n, rfl⟩ : ∃ n : Nat, i = n := ⟨i.toNat, by omega⟩
  show chk (decide (-10000000000 < (n : Int)) && decide ((n : Int) < 10000000000)) (R.ok (D.str (Str.ofString (toString (n : Int))))) = _
  rw [dec_all ⟨n, by omega⟩, decide_eq_true (by omega), decide_eq_true (by omega)]; rfl
theorem int_all1 : ∀ n : Fin 10, intText? (mkS [48 + n.val]) = some (n.val : Nat) := by decide +kernel
theorem int_all2 : ∀ n m : Fin 10, intText? (mkS [48 + n.val, 48 + m.val]) = some ((10 * n.val + m.val : Nat) : Int) := by decide +kernel
def dg (c : Nat) : Bool := decide (48 ≤ c) && decide (c ≤ 57)
theorem int_1 {c : Nat} (h : dg c = true) : blt .int [strD [c]] = .ok (.int ((c : Int) - 48)) := by
  simp only [dg, Bool.and_eq_true, decide_eq_true_eq] at h
  obtain ⟨n, rfl⟩ : ∃ n, c = 48 + n := ⟨c - 48, by omega⟩
  show (match intText? (mkS [48 + n]) with
    | some n' => chk (decide ((mkS [48 + n]).length ≤ 640)) (R.ok (D.int n'))
    | none => .bad) = _
  rw [int_all1 ⟨n, by omega⟩]
  have e : (((48 + n : Nat) : Int) - 48) = n := by omega
  rw [e]; rfl
theorem int_2 {c d : Nat} (h : dg c = true) (h' : dg d = true) : blt .int [strD [c, d]] = .ok (.int (10 * ((c : Int) - 48) + ((d : Int) - 48))) := by
  simp only [dg, Bool.and_eq_true, decide_eq_true_eq] at h h'
  obtain ⟨n, rfl⟩ : ∃ n, c = 48 + n := ⟨c - 48, by omega⟩
  obtain ⟨m, rfl⟩ : ∃ n, d = 48 + n := ⟨d - 48, by omega⟩
  show (match intText? (mkS [48 + n, 48 + m]) with
    | some n' => chk (decide ((mkS [48 + n, 48 + m]).length ≤ 640)) (R.ok (D.int n'))
    | none => .bad) = _
  rw [int_all2 ⟨n, by omega⟩ ⟨m, by omega⟩]
  have e : (10 * (((48 + n : Nat) : Int) - 48) + (((48 + m : Nat) : Int) - 48)) = ((10 * n + m : Nat) : Int) := by omega
  rw [e]; rfl
theorem in_dg (c : Nat) : cmpop .inn (strD [c]) (.str "0123456789") = .ok (.bl (dg c)) := by
  show (chk (decide ((("0123456789" : Str)).length ≤ LIM)) (R.ok (decide (c ∈ ("0123456789" : Str).cps.toList)))).bind (fun k => R.ok (D.bl k)) = _
  have e1 : ("0123456789" : Str).cps.toList = [48, 49, 50, 51, 52, 53, 54, 55, 56, 57] := by decide +kernel
  have e2 : decide ((("0123456789" : Str)).length ≤ LIM) = true := by decide +kernel
  rw [e1, e2]
  have e3 : decide (c ∈ [48, 49, 50, 51, 52, 53, 54, 55, 56, 57]) = dg c := by
    unfold dg
    rw [Bool.eq_iff_iff]
    simp
    omega
  rw [e3]; rfl
/-! ### a stand's text -/
def dig : List Nat → Option Int
  | [c] => if dg c then some ((c : Int) - 48) else none
  | _ => none
theorem dig_rng {w : List Nat} {i : Int} (h : dig w = some i) : 0 ≤ i ∧ i ≤ 9 ∧ w = dec i := by
  unfold dig at h
  split at h
  · rename_i c
    split at h
    · rename_i hc
      cases h
      simp only [dg, Bool.and_eq_true, decide_eq_true_eq] at hc
      refine ⟨by omega, by omega, ?_⟩
      unfold dec
      rw [if_pos (by omega)]
      congr 1
      omega
    · cases h
  · cases h
theorem dig_dec {i : Int} (h : 0 ≤ i ∧ i ≤ 9) : dig (dec i) = some i := by
  unfold dec
  rw [if_pos (by omega)]
  show (if dg (48 + i.toNat) = true then some (((48 + i.toNat : Nat) : Int) - 48) else none) = _
  rw [if_pos (by simp [dg]; omega)]
  congr 1
  omega
def wrL (s : Sta) : List Nat := s.ms.map sgOf ++ ([32] ++ (dec s.a ++ ([32] ++ (dec s.b ++ ([32] ++ [sgOf (some s.w)])))))
def readP (m : Int) (l : List Nat) : Option Sta := match spl [32] 0 [] l with
  | [w0, w1, w2, w3] => if (w0.all isSg && (decide (w3 = [120]) || decide (w3 = [111])) && ((dig w1).isSome && (dig w2).isSome) && decide ((w0.length : Int) = m)) = true then some ⟨w0.map manS, (dig w1).getD 0, (dig w2).getD 0, decide (w3 = [111])⟩ else none
  | _ => none
theorem read_wr {m : Int} {s : Sta} (hl : (s.ms.length : Int) = m) (ha : 0 ≤ s.a ∧ s.a ≤ 9) (hb : 0 ≤ s.b ∧ s.b ≤ 9) : readP m (wrL s) = some s := by
  obtain ⟨ms, a, b, w⟩ := s
  have hd : ∀ {i : Int}, 0 ≤ i ∧ i ≤ 9 → 32 ∉ dec i := fun {i} h => by
    unfold dec
    rw [if_pos (by omega)]
    simp; omega
  have hj : wrL ⟨ms, a, b, w⟩ = joinL [32] [ms.map sgOf, dec a, dec b, [sgOf (some w)]] := rfl
  have hs : spl [32] 0 [] (wrL ⟨ms, a, b, w⟩) = [ms.map sgOf, dec a, dec b, [sgOf (some w)]] := by
    rw [hj]
    refine spl_join (by simp) fun p hp => ?_
    simp only [List.mem_cons, List.not_mem_nil, or_false] at hp
    rcases hp with rfl | rfl | rfl | rfl
    · intro h
      obtain ⟨o, _, e⟩ := List.mem_map.mp h
      cases o with
      | none => cases e
      | some b => cases b <;> cases e
    · exact hd ha
    · exact hd hb
    · cases w <;> simp [sgOf]
  unfold readP
  rw [hs]
  have h1 : (ms.map sgOf).all isSg = true := by
    rw [List.all_map, List.all_eq_true]
    exact fun o _ => sg_is o
  have h2 : (ms.map sgOf).map manS = ms := by
    rw [List.map_map]
    have : (manS ∘ sgOf) = id := funext man_sg
    rw [this, List.map_id]
  simp only [dig_dec ha, dig_dec hb, h1, h2, List.length_map]
  have hl' : (ms.length : Int) = m := hl
  cases w <;> simp [sgOf, hl']
theorem wr_read {m : Int} {l : List Nat} {s : Sta} (h : readP m l = some s) : (s.ms.length : Int) = m ∧ (0 ≤ s.a ∧ s.a ≤ 9) ∧ (0 ≤ s.b ∧ s.b ≤ 9) ∧ wrL s = l := by
  unfold readP at h
  split at h
  · rename_i w0 w1 w2 w3 hs
    split at h
    · rename_i hc
      cases h
      simp only [Bool.and_eq_true, Bool.or_eq_true, decide_eq_true_eq] at hc
      obtain ⟨⟨⟨h1, h2⟩, h3, h4⟩, h5⟩ := hc
      obtain ⟨a, ha⟩ := Option.isSome_iff_exists.mp h3
      obtain ⟨b, hb⟩ := Option.isSome_iff_exists.mp h4
      obtain ⟨a1, a2, a3⟩ := dig_rng ha
      obtain ⟨b1, b2, b3⟩ := dig_rng hb
      have e := join_spl l []
      rw [hs] at e
      simp only [ha, hb, Option.getD_some]
      refine ⟨by simpa using h5, ⟨a1, a2⟩, ⟨b1, b2⟩, ?_⟩
      have e0 : (w0.map manS).map sgOf = w0 := by
        rw [List.map_map]
        have : w0.map (sgOf ∘ manS) = w0.map id := List.map_congr_left fun c hc => sg_man (List.all_eq_true.mp h1 c hc)
        rw [this, List.map_id]
      have e3 : [sgOf (some (decide (w3 = [111])))] = w3 := by
        rcases h2 with rfl | rfl <;> rfl
      unfold wrL
      simp only [e0, ← a3, ← b3, e3]
      exact e
    · cases h
  · cases h
theorem wr_len {m : Int} {s : Sta} (hl : (s.ms.length : Int) = m) (h24 : m ≤ 24) : (wrL s).length ≤ 40 := by
  have hd : ∀ i : Int, (dec i).length ≤ 2 := fun i => by unfold dec; split <;> simp
  have := hd s.a
  have := hd s.b
  unfold wrL
  simp
  omega
theorem wr_ok {s : Sta} (ha : 0 ≤ s.a ∧ s.a ≤ 9) (hb : 0 ≤ s.b ∧ s.b ≤ 9) : okL (wrL s) = true := by
  have hd : ∀ {i : Int}, 0 ≤ i ∧ i ≤ 9 → okL (dec i) = true := fun {i} h => by
    unfold dec
    rw [if_pos (by omega)]
    simp [okL]; omega
  have hm : okL (s.ms.map sgOf) = true := by
    unfold okL
    rw [List.all_map, List.all_eq_true]
    intro o _
    cases o with
    | none => rfl
    | some b => cases b <;> rfl
  have hw : okL [sgOf (some s.w)] = true := by cases s.w <;> rfl
  unfold wrL
  rw [okL_app, okL_app, okL_app, okL_app, okL_app, okL_app, hm, hd ha, hd hb, hw]; rfl
end Ev

namespace Ev
open PySem TL
/-! ### a move's text -/
def TAKE : List Nat := [32, 116, 97, 107, 101, 32]
def LAY : List Nat := [108, 97, 121]
def LEAD : List Nat := [108, 101, 97, 100]
def pointP : List Nat → Option Int
  | [c] => if dg c then some ((c : Int) - 48) else none
  | [c, d] => if dg c && dg d && !decide (c = 48) && decide (10 * ((c : Int) - 48) + ((d : Int) - 48) ≤ 23) then some (10 * ((c : Int) - 48) + ((d : Int) - 48)) else none
  | _ => none
theorem point_is {w : List Nat} {i : Int} (h : pointP w = some i) : 0 ≤ i ∧ i ≤ 23 ∧ w = dec i := by
  unfold pointP at h
  split at h
  · rename_i c
    split at h
    · rename_i hc
      cases h
      simp only [dg, Bool.and_eq_true, decide_eq_true_eq] at hc
      refine ⟨by omega, by omega, ?_⟩
      unfold dec
      rw [if_pos (by omega)]
      congr 1
      omega
    · cases h
  · rename_i c d
    split at h
    · rename_i hc
      cases h
      simp only [dg, Bool.and_eq_true, decide_eq_true_eq, Bool.not_eq_true', decide_eq_false_iff_not] at hc
      refine ⟨by omega, by omega, ?_⟩
      unfold dec
      rw [if_neg (by omega)]
      have e1 : c = 48 + (10 * ((c : Int) - 48) + ((d : Int) - 48)).toNat / 10 := by omega
      have e2 : d = 48 + (10 * ((c : Int) - 48) + ((d : Int) - 48)).toNat % 10 := by omega
      rw [← e1, ← e2]
    · cases h
  · cases h
theorem point_all : ∀ n : Fin 24, pointP (dec ((n.val : Nat) : Int)) = some (n.val : Nat) := by decide +kernel
theorem point_dec {i : Int} (h : 0 ≤ i ∧ i ≤ 23) : pointP (dec i) = some i := by
  obtain ⟨n, rfl⟩ : ∃ n : Nat, i = n := ⟨i.toNat, by omega⟩
  exact point_all ⟨n, by omega⟩
def aheadP (l : List Nat) : List Nat × Option (List Nat) := match par TAKE [] l with
  | some (a, b) => (a, some b)
  | none => (l, none)
def takenP : Option (List Nat) → Option Int
  | some b => pointP b
  | none => some (-1)
def wordsP (t : Int) : List (List Nat) → Option (List Int)
  | [w0, w1] => if w0 = LAY then (pointP w1).map fun g => [-1, g, t] else none
  | [w0, w1, w2] => if w0 = LEAD then (pointP w1).bind fun b => (pointP w2).map fun g => [b, g, t] else none
  | _ => none
def heardP (l : List Nat) : Option (List Int) := (takenP (aheadP l).2).bind fun t => wordsP t (spl [32] 0 [] (aheadP l).1)
def goL (b g : Int) : List Nat := if 0 ≤ b then LEAD ++ ([32] ++ (dec b ++ ([32] ++ dec g))) else LAY ++ ([32] ++ dec g)
def toldL (b g t : Int) : List Nat := if 0 ≤ t then goL b g ++ (TAKE ++ dec t) else goL b g
def noT : List Nat → Bool
  | [] => true
  | c :: r => (!decide (c = 32) || !decide ((r ++ [32]).head? = some 116)) && noT r
theorem pre_noT {c : Nat} {r k : List Nat} (h : (!decide (c = 32) || !decide ((r ++ [32]).head? = some 116)) = true) (hk : k = [] ∨ ∃ q, k = 32 :: q) : pre TAKE (c :: (r ++ k)) = false := by
  by_cases hc : c = 32
  · subst hc
    cases r with
    | nil =>
      rcases hk with rfl | ⟨q, rfl⟩
      · rfl
      · show ((32 :: 32 :: q).take 6 == TAKE) = false
        rw [List.take_succ_cons, List.take_succ_cons]
        cases hq : ((32 :: 32 :: List.take 4 q) == TAKE) with
        | false => rfl
        | true => have := eq_of_beq hq; simp [TAKE] at this
    | cons d r =>
      have hd : d ≠ 116 := by
        intro e
        subst e
        simp at h
      show ((32 :: d :: (r ++ k)).take 6 == TAKE) = false
      rw [List.take_succ_cons, List.take_succ_cons]
      cases hq : ((32 :: d :: List.take 4 (r ++ k)) == TAKE) with
      | false => rfl
      | true =>
        have := eq_of_beq hq
        simp only [TAKE, List.cons.injEq] at this
        exact absurd this.2.1 hd
  · exact pre_of_head _ _ hc
theorem par_take {rest : List Nat} : ∀ (p acc : List Nat), noT p = true → par TAKE acc (p ++ (TAKE ++ rest)) = some (acc ++ p, rest)
  | [], acc, _ => by
    rw [List.nil_append]
    show par TAKE acc (32 :: ([116, 97, 107, 101, 32] ++ rest)) = _
    rw [par_hit (by simp [pre, TAKE])]
    simp [TAKE]
  | c :: r, acc, h => by
    unfold noT at h
    rw [Bool.and_eq_true] at h
    rw [List.cons_append, par_miss (pre_noT (k := TAKE ++ rest) h.1 (.inr ⟨[116, 97, 107, 101, 32] ++ rest, rfl⟩)), par_take r (acc ++ [c]) h.2, List.append_assoc]
    rfl
theorem par_no : ∀ (p acc : List Nat), noT p = true → par TAKE acc p = none
  | [], acc, _ => rfl
  | c :: r, acc, h => by
    unfold noT at h
    rw [Bool.and_eq_true] at h
    have := pre_noT (k := []) h.1 (.inl rfl)
    rw [List.append_nil] at this
    rw [par_miss this, par_no r (acc ++ [c]) h.2]
theorem par_back {S : List Nat} : ∀ {l acc a b : List Nat}, par S acc l = some (a, b) → acc ++ l = a ++ (S ++ b)
  | [], acc, a, b, h => by cases h
  | c :: r, acc, a, b, h => by
    cases hp : pre S (c :: r) with
    | true =>
      rw [par_hit hp] at h
      cases h
      have e : (c :: r).take S.length = S := eq_of_beq hp
      have := List.take_append_drop S.length (c :: r)
      rw [e] at this
      rw [this]
    | false =>
      rw [par_miss hp] at h
      have := par_back h
      rw [← this]
      simp
theorem noT_lead : ∀ b g : Fin 24, noT (goL (b.val : Nat) (g.val : Nat)) = true := by decide +kernel
theorem noT_lay : ∀ g : Fin 24, noT (goL (-1) (g.val : Nat)) = true := by decide +kernel
theorem noT_go {b g : Int} (hb : -1 ≤ b ∧ b ≤ 23) (hg : 0 ≤ g ∧ g ≤ 23) : noT (goL b g) = true := by
  obtain ⟨n, rfl⟩ : ∃ n : Nat, g = n := ⟨g.toNat, by omega⟩
  by_cases h : 0 ≤ b
  · obtain ⟨k, rfl⟩ : ∃ k : Nat, b = k := ⟨b.toNat, by omega⟩
    exact noT_lead ⟨k, by omega⟩ ⟨n, by omega⟩
  · have : b = -1 := by omega
    subst this
    exact noT_lay ⟨n, by omega⟩
theorem dec_no {i : Int} (h : 0 ≤ i ∧ i ≤ 99) : 32 ∉ dec i := by
  unfold dec
  split <;> simp <;> omega
theorem words_go {b g t : Int} (hb : -1 ≤ b ∧ b ≤ 23) (hg : 0 ≤ g ∧ g ≤ 23) : wordsP t (spl [32] 0 [] (goL b g)) = some [b, g, t] := by
  unfold goL
  by_cases h : 0 ≤ b
  · rw [if_pos h]
    have e : LEAD ++ ([32] ++ (dec b ++ ([32] ++ dec g))) = joinL [32] [LEAD, dec b, dec g] := rfl
    rw [e, spl_join (by simp) fun p hp => ?_]
    · simp [wordsP, point_dec (i := b) (by omega), point_dec hg]
    · simp only [List.mem_cons, List.not_mem_nil, or_false] at hp
      rcases hp with rfl | rfl | rfl
      · decide
      · exact dec_no (by omega)
      · exact dec_no (by omega)
  · rw [if_neg h]
    have e : LAY ++ ([32] ++ dec g) = joinL [32] [LAY, dec g] := rfl
    have hb1 : b = -1 := by omega
    subst hb1
    rw [e, spl_join (by simp) fun p hp => ?_]
    · simp [wordsP, point_dec hg]
    · simp only [List.mem_cons, List.not_mem_nil, or_false] at hp
      rcases hp with rfl | rfl
      · decide
      · exact dec_no (by omega)
theorem heard_told {b g t : Int} (hb : -1 ≤ b ∧ b ≤ 23) (hg : 0 ≤ g ∧ g ≤ 23) (ht : -1 ≤ t ∧ t ≤ 23) : heardP (toldL b g t) = some [b, g, t] := by
  unfold toldL
  by_cases h : 0 ≤ t
  · rw [if_pos h]
    have e : aheadP (goL b g ++ (TAKE ++ dec t)) = (goL b g, some (dec t)) := by
      unfold aheadP
      rw [par_take _ _ (noT_go hb hg)]; rfl
    unfold heardP
    rw [e]
    show (pointP (dec t)).bind _ = _
    rw [point_dec ⟨h, by omega⟩]
    exact words_go hb hg
  · rw [if_neg h]
    have ht1 : t = -1 := by omega
    subst ht1
    have e : aheadP (goL b g) = (goL b g, none) := by
      unfold aheadP
      rw [par_no _ _ (noT_go hb hg)]
    unfold heardP
    rw [e]
    exact words_go hb hg
theorem go_words {t : Int} {l : List Nat} {mv : List Int} (h : wordsP t (spl [32] 0 [] l) = some mv) : ∃ b g, (-1 ≤ b ∧ b ≤ 23) ∧ (0 ≤ g ∧ g ≤ 23) ∧ mv = [b, g, t] ∧ goL b g = l := by
  have ej := join_spl l []
  unfold wordsP at h
  split at h
  · rename_i w0 w1 hs
    rw [hs] at ej
    split at h
    · rename_i h0
      subst h0
      cases hp : pointP w1 with
      | none => rw [hp] at h; cases h
      | some g =>
        rw [hp] at h
        cases h
        obtain ⟨g1, g2, g3⟩ := point_is hp
        refine ⟨-1, g, by omega, ⟨g1, g2⟩, rfl, ?_⟩
        unfold goL
        rw [if_neg (by omega), ← g3]
        exact ej
    · cases h
  · rename_i w0 w1 w2 hs
    rw [hs] at ej
    split at h
    · rename_i h0
      subst h0
      cases hp : pointP w1 with
      | none => rw [hp] at h; cases h
      | some b =>
        cases hq : pointP w2 with
        | none => rw [hp, hq] at h; cases h
        | some g =>
          rw [hp, hq] at h
          cases h
          obtain ⟨b1, b2, b3⟩ := point_is hp
          obtain ⟨g1, g2, g3⟩ := point_is hq
          refine ⟨b, g, by omega, ⟨g1, g2⟩, rfl, ?_⟩
          unfold goL
          rw [if_pos b1, ← g3, ← b3]
          exact ej
    · cases h
  · cases h
theorem told_heard {l : List Nat} {mv : List Int} (h : heardP l = some mv) : ∃ b g t, (-1 ≤ b ∧ b ≤ 23) ∧ (0 ≤ g ∧ g ≤ 23) ∧ (-1 ≤ t ∧ t ≤ 23) ∧ mv = [b, g, t] ∧ toldL b g t = l := by
  unfold heardP at h
  cases hp : par TAKE [] l with
  | none =>
    have e : aheadP l = (l, none) := by unfold aheadP; rw [hp]
    rw [e] at h
    obtain ⟨b, g, h1, h2, h3, h4⟩ := go_words (t := -1) h
    refine ⟨b, g, -1, h1, h2, by omega, h3, ?_⟩
    unfold toldL
    rw [if_neg (by omega), h4]
  | some ab =>
    obtain ⟨a, b'⟩ := ab
    have e : aheadP l = (a, some b') := by unfold aheadP; rw [hp]
    rw [e] at h
    replace h : (pointP b').bind (fun t => wordsP t (spl [32] 0 [] a)) = some mv := h
    cases ht : pointP b' with
    | none => rw [ht] at h; cases h
    | some t =>
      rw [ht] at h
      obtain ⟨t1, t2, t3⟩ := point_is ht
      obtain ⟨b, g, h1, h2, h3, h4⟩ := go_words h
      refine ⟨b, g, t, h1, h2, by omega, h3, ?_⟩
      have := par_back hp
      unfold toldL
      rw [if_pos t1, h4, ← t3]
      exact this.symm
theorem dec_ok {i : Int} (h : 0 ≤ i ∧ i ≤ 99) : okL (dec i) = true := by
  unfold dec
  split <;> simp [okL] <;> omega
theorem dec_len (i : Int) : (dec i).length ≤ 2 := by unfold dec; split <;> simp
theorem told_ok {b g t : Int} (hb : -1 ≤ b ∧ b ≤ 23) (hg : 0 ≤ g ∧ g ≤ 23) (ht : -1 ≤ t ∧ t ≤ 23) : okL (toldL b g t) = true := by
  have hgo : okL (goL b g) = true := by
    unfold goL
    split
    · rw [okL_app, okL_app, okL_app, okL_app, dec_ok (i := b) (by omega), dec_ok (i := g) (by omega)]; rfl
    · rw [okL_app, okL_app, dec_ok (i := g) (by omega)]; rfl
  unfold toldL
  split
  · rw [okL_app, okL_app, hgo, dec_ok (i := t) (by omega)]; rfl
  · exact hgo
theorem told_len (b g t : Int) : (toldL b g t).length ≤ 40 := by
  have h1 := dec_len b
  have h2 := dec_len g
  have h3 := dec_len t
  have hgo : (goL b g).length ≤ 20 := by unfold goL; split <;> simp [LEAD, LAY] <;> omega
  unfold toldL
  split
  · simp [TAKE]; omega
  · omega
end Ev

namespace Ev
/-! ### games, turned -/
section
variable {m : Int} {ts rs : List (List Int)} {σ : List Int}
theorem val_cons {s0 : Sta} {mv : List Int} {w : List (List Int)} (h : Val ts rs s0 (mv :: w)) : mv ∈ mvs ts rs s0 := (h [] mv w rfl).2
theorem last_cons {s0 : Sta} {mv : List Int} {w : List (List Int)} : lastOf s0 (mv :: w) = lastOf (s0.nxt mv) w := rfl
/-- each move is one of its stand's -/
def Runs (ts rs : List (List Int)) (s0 : Sta) (w : List (List Int)) : Prop := ∀ pre mv post, w = pre ++ mv :: post → mv ∈ mvs ts rs (lastOf s0 pre)
theorem Val.runs {s0 : Sta} {w : List (List Int)} (h : Val ts rs s0 w) : Runs ts rs s0 w := fun pre mv post e => (h pre mv post e).2
theorem Runs.tail {s0 : Sta} {mv : List Int} {w : List (List Int)} (h : Runs ts rs s0 (mv :: w)) : Runs ts rs (s0.nxt mv) w := fun pre x post e => h (mv :: pre) x post (by rw [e]; rfl)
theorem Runs.head {s0 : Sta} {mv : List Int} {w : List (List Int)} (h : Runs ts rs s0 (mv :: w)) : mv ∈ mvs ts rs s0 := h [] mv w rfl
theorem Runs.pre {s0 : Sta} {w k : List (List Int)} (h : Runs ts rs s0 (w ++ k)) : Runs ts rs s0 w := fun pre mv post e => h pre mv (post ++ k) (by rw [e]; simp)
theorem last_turn (h : IsTurn m ts rs σ) (g2 : Good 2 m ts) : ∀ {w : List (List Int)} {s0 : Sta}, (s0.ms.length : Int) = m → Runs ts rs s0 w → lastOf (s0.turn σ) (w.map (List.map (tauP σ))) = (lastOf s0 w).turn σ
  | [], s0, _, _ => rfl
  | mv :: w, s0, hl, r => by
    have e := nxt_turn h g2 hl r.head
    rw [List.map_cons, last_cons, e, last_turn h g2 (nxt_len hl) r.tail]
    rfl
theorem stas_turn (h : IsTurn m ts rs σ) (g2 : Good 2 m ts) : ∀ {w : List (List Int)} {s0 : Sta}, (s0.ms.length : Int) = m → Runs ts rs s0 w → stasOf (s0.turn σ) (w.map (List.map (tauP σ))) = (stasOf s0 w).map (Sta.turn σ)
  | [], s0, _, _ => rfl
  | mv :: w, s0, hl, r => by
    have e := nxt_turn h g2 hl r.head
    show s0.turn σ :: stasOf ((s0.turn σ).nxt (mv.map (tauP σ))) (w.map (List.map (tauP σ))) = (s0 :: stasOf (s0.nxt mv) w).map (Sta.turn σ)
    rw [e, stas_turn h g2 (nxt_len hl) r.tail]
    rfl
theorem stas_lens : ∀ {w : List (List Int)} {s0 : Sta}, (s0.ms.length : Int) = m → ∀ s ∈ stasOf s0 w, (s.ms.length : Int) = m
  | [], s0, hl, s, hs => by
    simp only [stasOf, List.mem_cons, List.not_mem_nil, or_false] at hs
    subst hs; exact hl
  | mv :: w, s0, hl, s, hs => by
    have hs : s ∈ s0 :: stasOf (s0.nxt mv) w := hs
    rcases List.mem_cons.mp hs with rfl | hs
    · exact hl
    · exact stas_lens (nxt_len hl) s hs
theorem turn_inj (h : IsTurn m ts rs σ) (g2 : Good 2 m ts) (g3 : Good 3 m rs) (h0 : 0 ≤ m) {s t : Sta} (hs : (s.ms.length : Int) = m) (ht : (t.ms.length : Int) = m) : eqv (s.turn σ).d (t.turn σ).d = eqv s.d t.d := by
  rw [eqv_sta, eqv_sta]
  have e : (s.turn σ).ms = (t.turn σ).ms ↔ s.ms = t.ms := by
    constructor
    · intro e
      have e : turnM σ s.ms = turnM σ t.ms := e
      have := congrArg (turnM (invL m σ)) e
      rw [turn_back h g2 g3 h0 hs, turn_back h g2 g3 h0 ht] at this
      exact this
    · intro e
      show turnM σ s.ms = turnM σ t.ms
      rw [e]
  rw [Bool.eq_iff_iff]
  simp only [decide_eq_true_eq]
  rw [e]
  exact Iff.rfl
theorem thr_turn (h : IsTurn m ts rs σ) (g2 : Good 2 m ts) (g3 : Good 3 m rs) (h0 : 0 ≤ m) {w : List (List Int)} {s0 : Sta} (hl : (s0.ms.length : Int) = m) (r : Runs ts rs s0 w) : thrP (s0.turn σ) (w.map (List.map (tauP σ))) = thrP s0 w := by
  unfold thrP stasD
  rw [stas_turn h g2 hl r, last_turn h g2 hl r]
  have e : (((stasOf s0 w).map (Sta.turn σ)).map Sta.d).countP (fun z => eqv z ((lastOf s0 w).turn σ).d) = ((stasOf s0 w).map Sta.d).countP (fun z => eqv z (lastOf s0 w).d) := by
    rw [List.countP_map, List.countP_map, List.countP_map]
    refine List.countP_congr fun s hs => ?_
    simp only [Function.comp]
    rw [turn_inj h g2 g3 h0 (stas_lens hl s hs) (last_len hl)]
  rw [e]
theorem quietOf_turn (h : IsTurn m ts rs σ) {x y z : Int} (hx : x < m) (hz : z < m) : quietOf ([x, y, z].map (tauP σ)) = quietOf [x, y, z] := by
  show (decide (0 ≤ tauP σ x) && decide (tauP σ z < 0)) = (decide (0 ≤ x) && decide (z < 0))
  have e : ∀ {p : Int}, p < m → (0 ≤ tauP σ p ↔ 0 ≤ p) := fun {p} hp => by
    by_cases c : 0 ≤ p
    · rw [tau_pos c]
      have := h.at_rng (p := p) ⟨c, hp⟩
      omega
    · rw [tau_neg (by omega)]; omega
  have ex := e hx
  have ez := e hz
  have ez' : tauP σ z < 0 ↔ z < 0 := by omega
  simp only [ex, ez']
theorem quiet_turn (h : IsTurn m ts rs σ) (g2 : Good 2 m ts) {s0 : Sta} (hl : (s0.ms.length : Int) = m) {w : List (List Int)} (r : Runs ts rs s0 w) : quietP (w.map (List.map (tauP σ))) = quietP w := by
  unfold quietP
  have key : ∀ l : List (List Int), (∀ mv ∈ l, quietOf (mv.map (tauP σ)) = quietOf mv) → ((l.map (List.map (tauP σ))).takeWhile quietOf).length = (l.takeWhile quietOf).length := by
    intro l
    induction l with
    | nil => intro _; rfl
    | cons x l ih =>
      intro hq
      rw [List.map_cons, List.takeWhile_cons, List.takeWhile_cons, hq x (by simp)]
      cases quietOf x
      · rfl
      · simp only [if_true, List.length_cons]
        rw [ih fun mv hm => hq mv (by simp [hm])]
  rw [← List.map_reverse]
  refine key _ fun mv hm => ?_
  obtain ⟨pre, post, e⟩ := List.append_of_mem (List.mem_reverse.mp hm)
  obtain ⟨b, g, t, rfl, k⟩ := mvs_mem g2 (last_len hl) (r pre mv post e)
  refine quietOf_turn h ?_ ?_
  · have := k.g0; rcases k.bb with z | z <;> omega
  · have := k.g0; rcases k.tt with z | z <;> omega
theorem on_turn (h : IsTurn m ts rs σ) (g2 : Good 2 m ts) (g3 : Good 3 m rs) (h0 : 0 ≤ m) {w : List (List Int)} {s0 : Sta} (hl : (s0.ms.length : Int) = m) (r : Runs ts rs s0 w) : onP ts (s0.turn σ) (w.map (List.map (tauP σ))) = onP ts s0 w := by
  unfold onP
  rw [thr_turn h g2 g3 h0 hl r, quiet_turn h g2 hl r, last_turn h g2 hl r, won_turn h g2 (last_len hl)]
theorem how_turn (h : IsTurn m ts rs σ) (g2 : Good 2 m ts) (g3 : Good 3 m rs) (h0 : 0 ≤ m) {w : List (List Int)} {s0 : Sta} (hl : (s0.ms.length : Int) = m) (r : Runs ts rs s0 w) : howP ts (s0.turn σ) (w.map (List.map (tauP σ))) = howP ts s0 w := by
  unfold howP
  rw [thr_turn h g2 g3 h0 hl r, quiet_turn h g2 hl r, last_turn h g2 hl r, won_turn h g2 (last_len hl)]
  rfl
theorem val_turn (h : IsTurn m ts rs σ) (g2 : Good 2 m ts) (g3 : Good 3 m rs) (h0 : 0 ≤ m) {w : List (List Int)} {s0 : Sta} (hl : (s0.ms.length : Int) = m) (v : Val ts rs s0 w) : Val ts rs (s0.turn σ) (w.map (List.map (tauP σ))) := fun pre' mv' post' e => by
  obtain ⟨pre, r1, e1, e2, e3⟩ := List.map_eq_append_iff.mp e
  obtain ⟨mv, post, e4, e5, e6⟩ := List.map_eq_cons_iff.mp e3
  subst e4
  have vv := v pre mv post e1
  have rp : Runs ts rs s0 pre := fun a b c e => v.runs a b (c ++ mv :: post) (by rw [e1, e]; simp)
  rw [← e2, ← e5]
  refine ⟨by rw [on_turn h g2 g3 h0 hl rp]; exact vv.1, ?_⟩
  rw [last_turn h g2 hl rp, mvs_turn h g2 g3 (last_len hl)]
  exact sortT_mem.mpr (List.mem_map.mpr ⟨mv, vv.2, rfl⟩)
end
/-! ### how many men -/
/-- what has been taken of v's men: who moves is the other one -/
def tookP (w : List (List Int)) (v : Bool) : Nat := (w.zipIdx.filter fun p => decide (0 ≤ p.1.getD 2 0) && decide (((p.2 : Int) % 2 = 1) ≠ (v = true))).length
end Ev

namespace Ev
/-! ### how many men a game leaves -/
section
variable {m : Int} {ts rs : List (List Int)} {σ : List Int}
/-- a man of v's goes with this move, which stands at i -/
def tkQ (v : Bool) (p : List Int × Nat) : Bool := decide (0 ≤ p.1.getD 2 0) && !decide ((p.2 : Int) % 2 = whoI v)
def tookF (v : Bool) : Nat → List (List Int) → Nat
  | _, [] => 0
  | i, mv :: w => (if tkQ v (mv, i) = true then 1 else 0) + tookF v (i + 1) w
theorem tookF_cons {v : Bool} {i : Nat} {mv : List Int} {w : List (List Int)} : tookF v i (mv :: w) = (if tkQ v (mv, i) = true then 1 else 0) + tookF v (i + 1) w := rfl
theorem took_filter (v : Bool) : ∀ (w : List (List Int)) (i : Nat), ((w.zipIdx i).filter (tkQ v)).length = tookF v i w
  | [], i => rfl
  | mv :: w, i => by
    have ih := took_filter v w (i + 1)
    rw [List.zipIdx_cons, List.filter_cons, tookF_cons]
    cases tkQ v (mv, i)
    · simp only [Bool.false_eq_true, if_false, ih]; omega
    · simp only [if_true, List.length_cons, ih]; omega
theorem cnt_run (g2 : Good 2 m ts) (v : Bool) : ∀ (w : List (List Int)) (s0 : Sta) (i : Nat), (s0.ms.length : Int) = m → Runs ts rs s0 w → (i : Int) % 2 = whoI s0.w →
    ((idxs (isMan v) (lastOf s0 w).ms).length : Int) + lft (lastOf s0 w).a (lastOf s0 w).b v = (idxs (isMan v) s0.ms).length + lft s0.a s0.b v - tookF v i w
  | [], s0, i, _, _, _ => by show _ = _ - ((0 : Nat) : Int); simp [lastOf]
  | mv :: w, s0, i, hl, r, hw => by
    obtain ⟨b, g, t, e, k⟩ := mvs_mem g2 hl r.head
    have hi : ((i + 1 : Nat) : Int) % 2 = whoI (s0.nxt mv).w := by
      have : (s0.nxt mv).w = !s0.w := by rw [e]; rfl
      rw [this]
      cases h : s0.w <;> rw [h] at hw <;> simp only [whoI, Bool.not_true, Bool.not_false, if_true, Bool.false_eq_true, if_false] at hw ⊢ <;> omega
    have ih := cnt_run g2 v w (s0.nxt mv) (i + 1) (nxt_len hl) r.tail hi
    rw [last_cons, ih]
    have c := cnt_after hl k v
    have l := lft_less (x := b) (a := s0.a) (b := s0.b) (w := s0.w) (v := v)
    have e1 : (s0.nxt mv).ms = afterM s0.ms b g t s0.w := by rw [e]; rfl
    have e2 : lft (s0.nxt mv).a (s0.nxt mv).b v = lft (lessA b s0.a s0.w) (lessB b s0.b s0.w) v := by rw [e]; rfl
    rw [e1, e2, c, l]
    have q : (if tkQ v (mv, i) = true then 1 else 0 : Nat) = (if 0 ≤ t ∧ v = !s0.w then 1 else 0 : Nat) := by
      have : tkQ v (mv, i) = decide (0 ≤ t ∧ v = !s0.w) := by
        unfold tkQ
        rw [e, hw]
        have e3 : ([b, g, t] : List Int).getD 2 0 = t := rfl
        simp only [e3]
        by_cases h0 : 0 ≤ t <;> cases v <;> cases s0.w <;> simp [h0, whoI]
      rw [this]
      simp
    rw [tookF_cons, q]
    by_cases h : 0 ≤ t ∧ v = !s0.w <;> simp only [h, if_true, if_false] <;> (try simp) <;> omega
theorem bnd_run (g2 : Good 2 m ts) : ∀ (w : List (List Int)) (s0 : Sta), (s0.ms.length : Int) = m → Runs ts rs s0 w → 0 ≤ s0.a → 0 ≤ s0.b → ∀ s ∈ stasOf s0 w, (0 ≤ s.a ∧ s.a ≤ s0.a) ∧ (0 ≤ s.b ∧ s.b ≤ s0.b)
  | [], s0, _, _, ha, hb, s, hs => by
    simp only [stasOf, List.mem_cons, List.not_mem_nil, or_false] at hs
    subst hs; omega
  | mv :: w, s0, hl, r, ha, hb, s, hs => by
    have hs : s ∈ s0 :: stasOf (s0.nxt mv) w := hs
    obtain ⟨b, g, t, e, k⟩ := mvs_mem g2 hl r.head
    have ea : (s0.nxt mv).a = lessA b s0.a s0.w := by rw [e]; rfl
    have eb : (s0.nxt mv).b = lessB b s0.b s0.w := by rw [e]; rfl
    have key : (0 ≤ (s0.nxt mv).a ∧ (s0.nxt mv).a ≤ s0.a) ∧ (0 ≤ (s0.nxt mv).b ∧ (s0.nxt mv).b ≤ s0.b) := by
      rw [ea, eb]
      have kk := k.bb
      have hlf : s0.lf = if s0.w = true then s0.b else s0.a := by unfold Sta.lf lft; cases s0.w <;> rfl
      rw [hlf] at kk
      unfold lessA lessB
      cases h : s0.w <;> rw [h] at kk <;> simp at kk ⊢ <;> split <;> omega
    rcases List.mem_cons.mp hs with rfl | hs
    · omega
    · have := bnd_run g2 w (s0.nxt mv) (nxt_len hl) r.tail key.1.1 key.2.1 s hs
      omega
def begP (m M : Int) : Sta := ⟨List.replicate m.toNat none, M, M, false⟩
theorem begP_len {M : Int} (h0 : 0 ≤ m) : ((begP m M).ms.length : Int) = m := by
  show ((List.replicate m.toNat (none : Option Bool)).length : Int) = m
  rw [List.length_replicate]; omega
theorem beg_turn {M : Int} (h : IsTurn m ts rs σ) (h0 : 0 ≤ m) : (begP m M).turn σ = begP m M := by
  have hl := begP_len (M := M) h0
  have e : List.replicate m.toNat none = turnM σ (List.replicate m.toNat none) := turnM_uniq h hl hl fun p hp hq => by
    have rep : ∀ q : Int, atM (List.replicate m.toNat none) q = none := fun q => by
      unfold atM
      rw [List.getD_eq_getElem?_getD, List.getElem?_replicate]
      split <;> rfl
    rw [rep, rep]
  show (⟨turnM σ (List.replicate m.toNat none), M, M, false⟩ : Sta) = ⟨List.replicate m.toNat none, M, M, false⟩
  rw [← e]
theorem beg_cnt (M : Int) (v : Bool) : (idxs (isMan v) (begP m M).ms).length = 0 := by
  show (idxs (isMan v) (List.replicate m.toNat none)).length = 0
  rw [idxs_count, List.countP_replicate]
  simp [isMan]
theorem beg_took (g2 : Good 2 m ts) {M : Int} (h0 : 0 ≤ m) (v : Bool) {w : List (List Int)} (r : Runs ts rs (begP m M) w) :
    ((idxs (isMan v) (lastOf (begP m M) w).ms).length : Int) + lft (lastOf (begP m M) w).a (lastOf (begP m M) w).b v = M - tookF v 0 w := by
  have h := cnt_run g2 v w (begP m M) 0 (begP_len h0) r rfl
  rw [h, beg_cnt]
  have : lft (begP m M).a (begP m M).b v = M := by cases v <;> rfl
  rw [this]; simp
end
theorem shap_how {ts : List (List Int)} {s0 : Sta} {w : List (List Int)} : shape (howP ts s0 w) = true := by
  unfold howP
  split
  · cases (lastOf s0 w).w <;> kernel_rfl
  · split
    · kernel_rfl
    · split <;> kernel_rfl
theorem eqv_how {ts : List (List Int)} {s0 : Sta} {w : List (List Int)} : eqv (howP ts s0 w) (howP ts s0 w) = true := by
  unfold howP
  split
  · cases (lastOf s0 w).w <;> kernel_rfl
  · split
    · kernel_rfl
    · split <;> kernel_rfl
theorem ne_end {ts : List (List Int)} {s0 : Sta} {w : List (List Int)} {t : Sta} : cmpop .ne (.tup [t.d, howP ts s0 w]) (.tup [t.d, howP ts s0 w]) = .ok (.bl false) := by
  have h1 := eqv_sta t t
  have h2 := eqv_how (ts := ts) (s0 := s0) (w := w)
  have e : eqv (.tup [t.d, howP ts s0 w]) (.tup [t.d, howP ts s0 w]) = true := by
    unfold eqv at *
    simp [toPy, toPys, PySem.PyData.eqv, PySem.PyData.eqvAll, h1, h2]
  have s1 : shap 59 (howP ts s0 w) = true := by
    unfold howP
    split
    · cases (lastOf s0 w).w <;> kernel_rfl
    · split
      · kernel_rfl
      · split <;> kernel_rfl
  have sh : shape (.tup [t.d, howP ts s0 w]) = true := by
    unfold shape
    simp only [shap, shaps, s1, Bool.and_true, Bool.true_and]
    unfold Sta.d standD
    simp [shap, shaps, shaps_men]
  show chk (shape _ && shape _) (R.ok (D.bl (!eqv _ _))) = _
  rw [sh, e]; rfl
end Ev

namespace K16
open Ev
theorem c_fullrows (n : Nat) (m : Int) (ts rs : List (List Int)) (ms : List (Option Bool)) (b : Bool) (hl : (ms.length : Int) = m) (h : ∀ r ∈ rs, ∀ p ∈ r, 0 ≤ p ∧ p ≤ m - 1) :
    C (n + 1) 3 [boardD m ts rs, .tup (mensD ms), .int (whoI b)] = .ok (.lst ((rs.filter (fullR ms b)).map intT)) := by
  rw [c3]
  have q : subD (boardD m ts rs) (.int 2) = .ok (tupsD rs) := rfl
  have hin : ∀ r ∈ rs, compL (fun d => (((subD (.tup (mensD ms)) d).bind fun x => cmpop .eq x (.int (whoI b))).bind fun x => .ok (some x)).noexc) (r.map D.int) = .ok (r.map fun p => .bl (decide (ms.getD p.toNat none = some b))) := fun r hr =>
    compL_map fun p hp => by rw [man_at hl (h r hr p hp)]; simp [man_eq]
  have hc : compL (fun d => ((setT (.one 3) d [some (boardD m ts rs), some (.tup (mensD ms)), some (.int (whoI b)), none, none]).bind fun env' => (evalT (cl n) (.cons (.blt .all (.cons (.cmpr (.cmp .eq (.sub (.var 1) (.var 4)) (.var 2)) (.one 4) (.it (.var 3)) .nil) .nil)) .nil) env').bind fun k => if k then (eval (cl n) (.var 3) env').bind fun x => .ok (some x) else .ok none).noexc)
      (rs.map intT) = .ok ((rs.filter (fullR ms b)).map intT) := by
    have e : (rs.filter (fullR ms b)).map intT = rs.filterMap fun r => if fullR ms b r then some (intT r) else none := by
      rw [← List.filterMap_eq_map, ← List.filterMap_eq_filter, List.filterMap_filterMap]
      congr 1
      funext r
      cases hf : fullR ms b r <;> simp [Option.guard, hf]
    rw [e]
    refine compL_opt fun r hr => ?_
    have h1 := hin r hr
    simp at h1
    unfold intT
    simp [h1]
    unfold fullR
    split <;> simp_all
  simp at hc
  unfold tupsD at q
  simp [d3, q, hc]
theorem c_points_of (n : Nat) (ms : List (Option Bool)) (a b : Int) (w v : Bool) : C (n + 1) 2 [standD ms a b w, .int (whoI v)] = .ok (.lst ((idxs (isMan v) ms).map D.int)) := by
  rw [c2]
  simp [d2, sub_men, k_enum (isMan v), man_eq, isMan]
theorem c_count (n : Nat) (ms : List (Option Bool)) (a b : Int) (w v : Bool) : C (n + 2) 4 [standD ms a b w, .int (whoI v)] = .ok (.int ((idxs (isMan v) ms).length + lft a b v)) := by
  rw [c4]
  simp [d4, c_points_of, sub_left, sub_lft]
theorem c_neighbours (n : Nat) (m p : Int) (ts rs : List (List Int)) (g : Good 2 m ts) : C (n + 1) 5 [boardD m ts rs, .int p] = .ok (.lst ((nbrs ts p).map D.int)) := by
  rw [c5]
  simp [d5, sub_ties, tups_intT]
  generalize hF : forL _ _ _ _ _ = F
  have key : F = .ok (.nx [.val (boardD m ts rs), .val (.int p), .own (.lst ((nbrs ts p).map D.int)), .emp, .emp]) := by
    rw [← hF]
    refine forL_pre intT (fun pre => [.val (boardD m ts rs), .val (.int p), .own (.lst ((nbrs pre p).map D.int)), .emp, .emp]) ts [] (fun pre x post e => ?_)
    replace e : ts = pre ++ x :: post := e
    obtain ⟨u, v, rfl, h1, h2, h3⟩ := (g.el x (by rw [e]; simp)).two
    have hlen : (nbrs pre p).length ≤ 2000 := by
      have := nbrs_len (p := p) g
      rw [e] at this
      unfold nbrs at this ⊢
      rw [List.flatMap_append, List.length_append] at this
      omega
    have l1 : (nbrs pre p).length < LIM := by unfold LIM; omega
    have en : nbrs (pre ++ [[u, v]]) p = nbrs pre p ++ nbr1 p [u, v] := by unfold nbrs; simp
    by_cases hu : u = p
    · have hv : ¬ v = p := by omega
      subst hu
      simp [ownL, intT, hv, en, nbr1, l1]
    · by_cases hv : v = p
      · subst hv
        simp [ownL, intT, hu, en, nbr1, l1]
      · simp [ownL, intT, hu, hv, en, nbr1, l1]
  subst key
  simp
theorem c_with_step (n : Nat) (ms : List (Option Bool)) (b g : Int) (w : Bool) (hb : -1 ≤ b ∧ b < ms.length) (hg : 0 ≤ g ∧ g < ms.length) : C (n + 1) 7 [.tup (mensD ms), .int b, .int g, .int (whoI w)] = .ok (.tup (mensD (stepM ms b g w))) := by
  rw [c7]
  obtain ⟨gn, rfl⟩ : ∃ gn : Nat, g = gn := ⟨g.toNat, by omega⟩
  have hg2 : gn < ms.length := by omega
  by_cases h : 0 ≤ b
  · obtain ⟨bn, rfl⟩ : ∃ bn : Nat, b = bn := ⟨b.toNat, by omega⟩
    have hb2 : bn < ms.length := by omega
    have e1 : (mensD ms).set bn .non = mensD (ms.set bn none) := mens_set ms bn none
    have e2 : (mensD (ms.set bn none)).set gn (.int (whoI w)) = mensD ((ms.set bn none).set gn (some w)) := mens_set _ gn (some w)
    simp [d7, putI, mens_len, ixN_nat hb2, ixN_nat hg2, e1, e2, stepM, Slot.isOwn]
  · have e2 : (mensD ms).set gn (.int (whoI w)) = mensD (ms.set gn (some w)) := mens_set _ gn (some w)
    simp [d7, h, putI, mens_len, ixN_nat hg2, e2, stepM, Slot.isOwn]
theorem c_steps (n : Nat) (m a b : Int) (ts rs : List (List Int)) (ms : List (Option Bool)) (w : Bool) (g : Good 2 m ts) (hl : (ms.length : Int) = m) (h24 : ms.length ≤ 24) :
    C (n + 2) 6 [boardD m ts rs, standD ms a b w] = .ok (.lst ((stepsP ts ms (lft a b w) w).map pairD)) := by
  rw [c6]
  have pt := c_points_of n ms a b w w
  unfold standD at pt
  by_cases h0 : 0 < lft a b w
  · simp [d6, standD, sub_lft, k_enum (·.isNone), isn_man, k_ints (fun g => .tup [.int (-1), .int g]), negD, h0, stepsP]
    exact fun _ _ => rfl
  · have nb := fun p => c_neighbours n m p ts rs g
    have lm := @idxs_len (isMan w) ms
    simp [d6, standD, sub_lft, k_enum (·.isNone), isn_man, pt, h0]
    generalize hF : forL _ _ _ _ _ = F
    have key : F = .ok (.nx [.val (boardD m ts rs), .val (standD ms a b w), .val (.tup (mensD ms)), .val (.tup [.int a, .int b]), .val (.int (whoI w)), .val (.lst ((idxs (·.isNone) ms).map D.int)), .val (.lst ((idxs (isMan w) ms).map D.int)), .own (.lst ((goneTo ts ms w (idxs (isMan w) ms)).map pairD)), .emp, .emp, .emp, .emp, .emp]) := by
      rw [← hF]
      refine forL_pre D.int (fun pre => [.val (boardD m ts rs), .val (standD ms a b w), .val (.tup (mensD ms)), .val (.tup [.int a, .int b]), .val (.int (whoI w)), .val (.lst ((idxs (·.isNone) ms).map D.int)), .val (.lst ((idxs (isMan w) ms).map D.int)), .own (.lst ((goneTo ts ms w pre).map pairD)), .emp, .emp, .emp, .emp, .emp]) (idxs (isMan w) ms) [] (fun pre x post e => ?_)
      have hpre := goneTo_len (w := w) (pre := pre) g h24
      have hx := goals_len (b := x) (w := w) g h24
      have hp : pre.length ≤ 24 := by
        have := congrArg List.length e
        simp at this; omega
      have hlim : (goneTo ts ms w pre).length + (goalsP ts ms w x).length ≤ LIM := by unfold LIM; omega
      by_cases hg : 3 < (idxs (isMan w) ms).length
      · have hg' : (3 : Int) < ((idxs (isMan w) ms).length : Nat) := by omega
        have eg : goalsP ts ms w x = (nbrs ts x).filter fun p => (atM ms p).isNone := by unfold goalsP; rw [if_pos hg]
        have nbf : compL (fun d => ((((subD (.tup (mensD ms)) d).bind fun x => R.ok (D.bl (isNon x))).bind truth).bind fun k => if k = true then R.ok (some d) else R.ok none).noexc) ((nbrs ts x).map D.int) = .ok (((nbrs ts x).filter fun p => (atM ms p).isNone).map D.int) :=
          k_intsF (fun p => (atM ms p).isNone) D.int fun p hp => by
            have := nbrs_rng g hp
            rw [man_at' ⟨this.1, by omega⟩]
            simp [isn_man]
        rw [← eg] at nbf
        simp [hg', nb, ownL, nbf, k_ints (fun g => .tup [.int x, .int g]), hlim, goneTo_snoc]
        exact fun _ _ => rfl
      · have hg' : ¬ (3 : Int) < ((idxs (isMan w) ms).length : Nat) := by omega
        have eg : goalsP ts ms w x = idxs (·.isNone) ms := by unfold goalsP; rw [if_neg hg]
        rw [eg] at hlim
        simp [hg', k_ints (fun g => .tup [.int x, .int g]), ownL, hlim, goneTo_snoc, eg]
        exact fun _ _ => rfl
    subst key
    simp [steps_gone h0]
theorem c_takings (n : Nat) (m g : Int) (ts rs : List (List Int)) (ms : List (Option Bool)) (w : Bool) (hl : (ms.length : Int) = m) (g3 : Good 3 m rs) (h24 : ms.length ≤ 24) :
    C (n + 2) 8 [boardD m ts rs, .tup (mensD ms), .int g, .int (whoI w)] = .ok (.lst ((takP rs ms g w).map D.int)) := by
  rw [c8]
  have hf := fun v => c_fullrows n m ts rs ms v hl (fun r hr => (g3.el r hr).rng)
  have h1 := hf w
  have h2 := hf (!w)
  have e1 : rs.filter (fullR ms w) = rowsP rs ms w := rfl
  have e2 : rs.filter (fullR ms !w) = rowsP rs ms !w := rfl
  rw [e1] at h1
  rw [e2] at h2
  have em : (fun o : Option Bool => decide (o = some !w)) = isMan !w := rfl
  cases ha : (rowsP rs ms w).any (inR g)
  · simp [d8, h1, k_tups (fun r => .bl (inR g r)), q_innT, ha, negD, takP]
  · have hk : compL (fun d => (((((((compL (fun d_1 => ((cmpop CO.inn d d_1).bind fun x => R.ok (some x)).noexc) ((rowsP rs ms !w).map intT)).bind fun r => R.ok (D.lst r)).bind fun d => R.ok [d]).bind fun ds => blt BF.any ds).bind fun x => (truth x).bind fun k => R.ok (D.bl !k)).bind truth).bind fun k => if k = true then R.ok (some d) else R.ok none).noexc)
      ((idxs (isMan !w) ms).map D.int) = .ok ((freeP rs ms w).map D.int) := k_intsF (fun p => !((rowsP rs ms !w).any (inR p))) D.int fun x hx => by
        rw [k_tups (fun r => .bl (inR x r)) (fun r hr => by rw [q_innT]; rfl)]
        have : blt .any [.lst ((rowsP rs ms !w).map fun r => .bl (inR x r))] = .ok (.bl ((rowsP rs ms !w).any (inR x))) := b_anyM
        simp [this]
    simp [d8, h1, h2, k_tups (fun r => .bl (inR g r)), q_innT, ha, who_not, k_enum (isMan !w), man_eq, isMan, negD, hk, takP]
    cases hf : freeP rs ms w <;> cases ho : idxs (isMan !w) ms <;> simp
theorem c_all_moves (n : Nat) (m a b : Int) (ts rs : List (List Int)) (ms : List (Option Bool)) (w : Bool) (g : Good 2 m ts) (g3 : Good 3 m rs) (hl : (ms.length : Int) = m) (h24 : ms.length ≤ 24) :
    C (n + 3) 9 [boardD m ts rs, standD ms a b w] = .ok (.lst ((movesOf rs ms w (stepsP ts ms (lft a b w) w)).map intT)) := by
  rw [c9]
  have hs := c_steps n m a b ts rs ms w g hl h24
  unfold standD at hs
  have hlen := steps_len (l := lft a b w) (w := w) g h24
  simp [d9, standD, hs]
  generalize hF : forL _ _ _ _ _ = F
  have key : F = .ok (.nx [.val (boardD m ts rs), .val (standD ms a b w), .val (.tup (mensD ms)), .val (.tup [.int a, .int b]), .val (.int (whoI w)), .own (.lst ((movesOf rs ms w (stepsP ts ms (lft a b w) w)).map intT)), .emp, .emp, .emp, .emp]) := by
    rw [← hF]
    refine forL_pre pairD (fun pre => [.val (boardD m ts rs), .val (standD ms a b w), .val (.tup (mensD ms)), .val (.tup [.int a, .int b]), .val (.int (whoI w)), .own (.lst ((movesOf rs ms w pre).map intT)), .emp, .emp, .emp, .emp]) (stepsP ts ms (lft a b w) w) [] (fun pre x post e => ?_)
    replace e : stepsP ts ms (lft a b w) w = pre ++ x :: post := e
    obtain ⟨s1, s2, s3, s4⟩ := steps_mem g hl (l := lft a b w) (w := w) (s := x) (by rw [e]; simp)
    have hb : -1 ≤ x.1 ∧ x.1 < ms.length := by rcases s4 with s4 | s4 <;> omega
    have hw := c_with_step (n + 1) ms x.1 x.2 w hb ⟨s1, by omega⟩
    have ht := c_takings n m x.2 ts rs (stepM ms x.1 x.2 w) w (by rw [stepM_len]; exact hl) g3 (by rw [stepM_len]; exact h24)
    have hpre := movesOf_len (rs := rs) (w := w) (ss := pre) h24
    have hp : pre.length ≤ 48000 := by
      have := congrArg List.length e
      simp at this; omega
    have htl := tak_len (rs := rs) (g := x.2) (w := w) (ms := stepM ms x.1 x.2 w) (by rw [stepM_len]; exact h24)
    have hlim : (movesOf rs ms w pre).length + (takP rs (stepM ms x.1 x.2 w) x.2 w).length ≤ LIM := by unfold LIM; omega
    simp [pairD, hw, ht, ownL, k_ints (fun t => .tup [.int x.1, .int x.2, .int t]), hlim, movesOf_snoc]
    exact fun _ _ => rfl
  subst key
  simp
theorem c_winner (n : Nat) (m a b : Int) (ts rs : List (List Int)) (ms : List (Option Bool)) (w : Bool) (g : Good 2 m ts) (hl : (ms.length : Int) = m) (h24 : ms.length ≤ 24) :
    C (n + 3) 10 [boardD m ts rs, standD ms a b w] = .ok (if winP ts ms (lft a b w) w then .int (whoI !w) else .non) := by
  rw [c10]
  have hs := c_steps n m a b ts rs ms w g hl h24
  have hc := c_count n ms a b w w
  by_cases h1 : ((idxs (isMan w) ms).length : Int) + lft a b w < 3
  · simp [d10, sub_turn, hc, h1, who_not, winP]
  · simp [d10, sub_turn, hc, h1, hs, who_not, winP]
    cases stepsP ts ms (lft a b w) w <;> simp
theorem movesOf_ne {rs : List (List Int)} {ms : List (Option Bool)} {w : Bool} {ss : List (Int × Int)} : ∀ x ∈ movesOf rs ms w ss, x ≠ [] := by
  intro x hx
  obtain ⟨s, _, h⟩ := List.mem_flatMap.mp hx
  obtain ⟨t, _, rfl⟩ := List.mem_map.mp h
  simp
theorem c_moves (n : Nat) (m a b : Int) (ts rs : List (List Int)) (ms : List (Option Bool)) (w : Bool) (g : Good 2 m ts) (g3 : Good 3 m rs) (hl : (ms.length : Int) = m) (h24 : ms.length ≤ 24) :
    C (n + 4) 11 [boardD m ts rs, standD ms a b w] = .ok (tupsD (movesP ts rs ms (lft a b w) w)) := by
  rw [c11]
  have hw := c_winner n m a b ts rs ms w g hl h24
  have hm := c_all_moves n m a b ts rs ms w g g3 hl h24
  have hs := sortD_tups _ (movesOf_ne (rs := rs) (ms := ms) (w := w) (ss := stepsP ts ms (lft a b w) w))
  cases h : winP ts ms (lft a b w) w
  · simp [d11, hw, h, isNon, hm, hs, movesP, tupsD]
  · simp [d11, hw, h, isNon, movesP, tupsD]
theorem c_lrows (n : Nat) (m : Int) (ts rs : List (List Int)) (ms : List (Option Bool)) (b : Bool) (hl : (ms.length : Int) = m) (g : Good 3 m rs) :
    C (n + 1) 34 [boardD m ts rs, .lst (mensD ms), .int (whoI b)] = .ok (.lst ((rowsP rs ms b).map intT)) := by
  rw [c34]
  have hin : ∀ r ∈ rs, _ := fun r hr => full3' (ms := ms) (.lst (mensD ms)) (fun p h => man_atL h) b r (g.el r hr).len (fun p hp => by have := (g.el r hr).rng p hp; omega)
  simp +contextual [d34, sub_rows, tups_intT, k_tupsF (fullR ms b) intT, elems_intT, hin]
  rfl
theorem c_lsteps (n : Nat) (m a b : Int) (ts rs : List (List Int)) (ms : List (Option Bool)) (w : Bool) (g : Good 2 m ts) (hl : (ms.length : Int) = m) (h24 : ms.length ≤ 24) :
    C (n + 1) 35 [boardD m ts rs, standD ms a b w] = .ok (.lst ((lstepsP ts ms (lft a b w) w).map pairD)) := by
  rw [c35]
  subst hl
  by_cases h0 : 0 < lft a b w
  · simp +contextual [d35, standD, sub_lft, sub_many, okR_len h24, k_rangeQ (·.isNone), man_atN, isn_man, k_ints (fun g => .tup [.int (-1), .int g]), negD, h0, lstepsP]
    exact fun _ _ => rfl
  · simp +contextual [d35, standD, sub_lft, sub_many, okR_len h24, k_rangeQ (·.isNone), k_rangeQ (isMan w), man_atN, isn_man, man_eq, isMan, h0]
    have e0 : (idxs (fun o => decide (o = some w)) ms) = idxs (isMan w) ms := rfl
    have lm := @idxs_len (isMan w) ms
    have le := @idxs_len (·.isNone) ms
    generalize hF : forL _ _ _ _ _ = F
    have key : F = .ok (.nx [.val (boardD ms.length ts rs), .val (standD ms a b w), .val (.tup (mensD ms)), .val (.tup [.int a, .int b]), .val (.int (whoI w)), .val (.lst ((idxs (·.isNone) ms).map D.int)), .val (.lst ((idxs (isMan w) ms).map D.int)), .own (.lst ((lgone ts ms w (idxs (isMan w) ms)).map pairD)), .emp, .emp, .emp]) := by
      rw [← hF]
      refine forL_pre D.int (fun pre => [.val (boardD ms.length ts rs), .val (standD ms a b w), .val (.tup (mensD ms)), .val (.tup [.int a, .int b]), .val (.int (whoI w)), .val (.lst ((idxs (·.isNone) ms).map D.int)), .val (.lst ((idxs (isMan w) ms).map D.int)), .own (.lst ((lgone ts ms w pre).map pairD)), .emp, .emp, .emp]) (idxs (isMan w) ms) [] (fun pre x post e => ?_)
      have hpre := lgone_len (ts := ts) (ms := ms) (w := w) (pre := pre)
      have hp : pre.length ≤ 24 := by
        have := congrArg List.length e
        simp at this; omega
      have hmul : pre.length * ms.length ≤ 24 * 24 := Nat.mul_le_mul hp h24
      simp
      generalize hF2 : forL _ _ _ _ _ = F2
      have key2 : F2 = .ok (.nx [.val (boardD ms.length ts rs), .val (standD ms a b w), .val (.tup (mensD ms)), .val (.tup [.int a, .int b]), .val (.int (whoI w)), .val (.lst ((idxs (·.isNone) ms).map D.int)), .val (.lst ((idxs (isMan w) ms).map D.int)), .own (.lst ((lgone ts ms w pre ++ ((idxs (·.isNone) ms).filter (ltie ts ms w x)).map fun g => (x, g)).map pairD)), .val (.int x), .emp, .emp]) := by
        rw [← hF2]
        refine (congrArg (fun l => forL _ _ _ _ [.val (boardD ms.length ts rs), .val (standD ms a b w), .val (.tup (mensD ms)), .val (.tup [.int a, .int b]), .val (.int (whoI w)), .val (.lst ((idxs (·.isNone) ms).map D.int)), .val (.lst ((idxs (isMan w) ms).map D.int)), .own (.lst (l.map pairD)), .val (.int x), .emp, .emp]) (show lgone ts ms w pre = lgone ts ms w pre ++ ((([] : List Int).filter (ltie ts ms w x)).map fun g => (x, g)) by simp)).trans ?_
        refine forL_pre D.int (fun pre2 => [.val (boardD ms.length ts rs), .val (standD ms a b w), .val (.tup (mensD ms)), .val (.tup [.int a, .int b]), .val (.int (whoI w)), .val (.lst ((idxs (·.isNone) ms).map D.int)), .val (.lst ((idxs (isMan w) ms).map D.int)), .own (.lst ((lgone ts ms w pre ++ (pre2.filter (ltie ts ms w x)).map fun g => (x, g)).map pairD)), .val (.int x), .emp, .emp]) (idxs (·.isNone) ms) [] (fun pre2 y post2 e2 => ?_)
        have hp2 : pre2.length ≤ 24 := by
          have := congrArg List.length e2
          simp at this; omega
        have hf2 := List.length_filter_le (ltie ts ms w x) pre2
        have hlim : (lgone ts ms w pre).length + (pre2.filter (ltie ts ms w x)).length < LIM := by unfold LIM; omega
        have hin := q_inT (tieOf x y) ts
        unfold tieOf intT at hin
        simp only [List.map_cons, List.map_nil] at hin
        by_cases h4 : (idxs (isMan w) ms).length < 4
        · have h4' : ((idxs (isMan w) ms).length : Int) < 4 := by omega
          simp [h4', ownL, hlim, ltie, h4, pairD]
        · have h4' : ¬ ((idxs (isMan w) ms).length : Int) < 4 := by omega
          by_cases ht : tieOf x y ∈ ts
          · have ht2 := ht
            unfold tieOf at ht2
            simp only [gt_iff_lt] at ht2
            simp [h4', ownL, hlim, ltie, h4, pairD, sub_ties, hin, ht, ht2]
          · have ht2 := ht
            unfold tieOf at ht2
            simp only [gt_iff_lt] at ht2
            simp [h4', ownL, hlim, ltie, h4, pairD, sub_ties, hin, ht, ht2]
      subst key2
      simp [lgone_snoc, ltie_eq]
    subst key
    simp [lsteps_gone h0]
theorem c_lwinner (n : Nat) (m a b : Int) (ts rs : List (List Int)) (ms : List (Option Bool)) (w : Bool) (g : Good 2 m ts) (hl : (ms.length : Int) = m) (h24 : ms.length ≤ 24) :
    C (n + 2) 37 [boardD m ts rs, standD ms a b w] = .ok (if winP ts ms (lft a b w) w then .int (whoI !w) else .non) := by
  rw [c37]
  have hs := c_lsteps n m a b ts rs ms w g hl h24
  have hne := steps_empty g hl (lft a b w) w
  have hct := count_men ms w
  unfold standD at hs
  by_cases h1 : ((idxs (isMan w) ms).length : Int) + lft a b w < 3
  · simp [d37, standD, sub_lft, hct, h1, who_not, winP]
  · simp [d37, standD, sub_lft, hct, h1, hs, who_not, winP]
    cases e1 : lstepsP ts ms (lft a b w) w <;> cases e2 : stepsP ts ms (lft a b w) w <;> simp_all
def bM : SL := match d36.body with
  | .cons _ (.cons _ (.cons _ (.cons (.for_ _ _ b _ _) _))) => b
  | _ => .nil
theorem lmove1 (n : Nat) (m a b x y : Int) (ts rs : List (List Int)) (ms : List (Option Bool)) (w : Bool) (fd : List (List Int)) (g3 : Good 3 m rs) (hl : (ms.length : Int) = m) (h24 : ms.length ≤ 24) (hx : -1 ≤ x ∧ x < m) (hy : 0 ≤ y ∧ y < m) (hf : fd.length ≤ 1200000) :
    stepR [6, 7, 8, 9, 10, 11, 12, 13] (execL (cl (n + 1)) bM [.val (boardD m ts rs), .val (standD ms a b w), .val (.tup (mensD ms)), .val (.tup [.int a, .int b]), .val (.int (whoI w)), .own (.lst (fd.map intT)), .val (.int x), .val (.int y), .emp, .emp, .emp, .emp, .emp, .emp, .emp, .emp, .emp]) =
      .ok [.val (boardD m ts rs), .val (standD ms a b w), .val (.tup (mensD ms)), .val (.tup [.int a, .int b]), .val (.int (whoI w)), .own (.lst ((fd ++ (takP rs (stepM ms x y w) y w).map fun t => [x, y, t]).map intT)), .emp, .emp, .emp, .emp, .emp, .emp, .emp, .emp, .emp, .emp, .emp] := by
  subst hl
  have hl2 : (stepM ms x y w).length = ms.length := stepM_len
  have h1 := fun v => c_lrows n ms.length ts rs (stepM ms x y w) v (by rw [hl2]) g3
  have hw := h1 w
  have hv := h1 (!w)
  obtain ⟨yn, rfl⟩ : ∃ yn : Nat, y = yn := ⟨y.toNat, by omega⟩
  have hy2 : yn < ms.length := by omega
  have eb : (ms.zipIdx.map fun p => if (p.2 : Int) = x then none else p.1) = if 0 ≤ x then ms.set x.toNat none else ms := men_but ms x hx.1
  generalize hm0 : (if 0 ≤ x then ms.set x.toNat none else ms) = m0 at eb
  have hml : m0.length = ms.length := by rw [← hm0]; split <;> simp
  have es : stepM ms x yn w = m0.set yn (some w) := by unfold stepM; rw [hm0]; simp
  have e2 : (mensD m0).set yn (.int (whoI w)) = mensD (m0.set yn (some w)) := mens_set _ yn (some w)
  rw [← es] at e2
  have hix := ixN_nat (n := (mensD m0).length) (i := yn) (by rw [mens_len]; omega)
  rw [mens_len] at hix
  have htl := tak_len (rs := rs) (g := yn) (w := w) (ms := stepM ms x yn w) (by rw [hl2]; exact h24)
  have hlim : fd.length + (takP rs (stepM ms x yn w) yn w).length ≤ LIM := by unfold LIM; omega
  cases ha : (rowsP rs (stepM ms x yn w) w).any (inR yn)
  · have hfe := filter_none ha
    have htk : takP rs (stepM ms x yn w) yn w = [-1] := by unfold takP; rw [ha]; rfl
    rw [htk] at hlim
    simp at hlim
    simp [bM, d36, k_men (fun o i => if (i : Int) = x then none else o), ite_ok, man_ite, eb, putI, mens_len, hix, Slot.isOwn, e2, negD, hw, k_tupsF (inR yn) intT, q_innT, hfe, ownL, hlim, htk, k_ints (fun t => intT [x, yn, t]), tr3]
  · have hfe := filter_some ha
    have hflat : (rowsP rs (stepM ms x yn w) !w).flatten.length ≤ 3000 := by
      rw [List.length_flatten]
      have : ∀ xs : List (List Int), (∀ r ∈ xs, r.length = 3) → (xs.map List.length).sum = 3 * xs.length := fun xs h => by
        induction xs with
        | nil => rfl
        | cons r xs ih =>
          rw [List.map_cons, List.sum_cons, ih fun q hq => h q (List.mem_cons_of_mem _ hq), h r List.mem_cons_self, List.length_cons]
          omega
      unfold rowsP
      rw [this _ fun r hr => (g3.el r (List.mem_filter.mp hr).1).len]
      have h1 := List.length_filter_le (fullR (stepM ms x yn w) !w) rs
      have h2 := g3.few
      omega
    have hloop : forL (execL (cl (n + 1)) (SL.cons (S.ext 10 (E.var 11) []) SL.nil)) (TG.one 11) [11] ((rowsP rs (stepM ms x yn w) !w).map intT) [.val (boardD ms.length ts rs), .val (standD ms a b w), .val (.tup (mensD ms)), .val (.tup [.int a, .int b]), .val (.int (whoI w)), .own (.lst (fd.map intT)), .val (.int x), .val (.int yn), .val (.lst (mensD (stepM ms x yn w))), .val (.lst [.int (-1)]), .own (.lst []), .emp, .emp, .emp, .emp, .emp, .emp]
        = .ok (.nx [.val (boardD ms.length ts rs), .val (standD ms a b w), .val (.tup (mensD ms)), .val (.tup [.int a, .int b]), .val (.int (whoI w)), .own (.lst (fd.map intT)), .val (.int x), .val (.int yn), .val (.lst (mensD (stepM ms x yn w))), .val (.lst [.int (-1)]), .own (.lst ((heldP rs (stepM ms x yn w) !w).map D.int)), .emp, .emp, .emp, .emp, .emp, .emp]) := by
      refine forL_pre intT (fun pre => [.val (boardD ms.length ts rs), .val (standD ms a b w), .val (.tup (mensD ms)), .val (.tup [.int a, .int b]), .val (.int (whoI w)), .own (.lst (fd.map intT)), .val (.int x), .val (.int yn), .val (.lst (mensD (stepM ms x yn w))), .val (.lst [.int (-1)]), .own (.lst (pre.flatten.map D.int)), .emp, .emp, .emp, .emp, .emp, .emp]) _ [] (fun pre r post e => ?_)
      replace e : rowsP rs (stepM ms x yn w) (!w) = pre ++ r :: post := e
      have hlim : pre.flatten.length + r.length ≤ LIM := by
        rw [e, List.flatten_append, List.length_append, List.flatten_cons, List.length_append] at hflat
        unfold LIM; omega
      have hlim' : (pre.map List.length).sum + r.length ≤ LIM := by rw [← List.length_flatten]; exact hlim
      simp [ownL, sqs_intT, hlim', -List.map_flatten]
    have hr := fun f => @k_rangeQ f (stepM ms x yn w) (isMan !w)
    simp only [hl2] at hr
    have hat := fun i => @man_atLN (stepM ms x yn w) i
    simp only [hl2] at hat
    have htk : takP rs (stepM ms x yn w) yn w = if (freeP rs (stepM ms x yn w) w).isEmpty then (if (idxs (isMan !w) (stepM ms x yn w)).isEmpty then [-1] else idxs (isMan !w) (stepM ms x yn w)) else freeP rs (stepM ms x yn w) w := by unfold takP; rw [ha]; rfl
    have hfree : (idxs (isMan !w) (stepM ms x yn w)).filter (fun p => !(inR p (heldP rs (stepM ms x yn w) !w))) = freeP rs (stepM ms x yn w) w := by
      unfold freeP heldP; congr 1; funext p; rw [inR_flat]
    have hk1 : compL (fun d => ((((subD (.lst (mensD (stepM ms x yn w))) d).bind fun x => cmpop .eq x (.int (whoI !w))).bind truth).bind fun k => R.ok (if k = true then some d else none)).noexc) (rangeD 0 ms.length) = .ok ((idxs (isMan !w) (stepM ms x yn w)).map D.int) := hr _ fun i hi => by
      rw [hat i hi]; simp [man_eq, isMan]
    rw [htk] at hlim
    simp [bM, d36, k_men (fun o i => if (i : Int) = x then none else o), ite_ok, man_ite, eb, putI, mens_len, hix, Slot.isOwn, e2, negD, hw, k_tupsF (inR yn) intT, q_innT, hfe, who_not, hv, hloop, sub_many, okR_len h24, hk1, k_intsF (fun p => !(inR p (heldP rs (stepM ms x yn w) !w))) D.int, q_ninL, hfree, noLists_ints, htk]
    cases hf : freeP rs (stepM ms x yn w) w
    · cases ho : idxs (isMan !w) (stepM ms x yn w)
      · rw [hf, ho] at hlim
        simp at hlim
        simp [ownL, hlim, k_ints (fun t => .tup [.int x, .int yn, .int t])] <;> simp [tr3]
      · rw [hf, ho] at hlim
        simp at hlim
        simp [ownL, hlim, k_ints (fun t => .tup [.int x, .int yn, .int t])] <;> simp [tr3]
    · rw [hf] at hlim
      simp at hlim
      simp [ownL, hlim, k_ints (fun t => .tup [.int x, .int yn, .int t])] <;> simp [tr3]
theorem c_lmoves (n : Nat) (m a b : Int) (ts rs : List (List Int)) (ms : List (Option Bool)) (w : Bool) (g : Good 2 m ts) (g3 : Good 3 m rs) (hl : (ms.length : Int) = m) (h24 : ms.length ≤ 24) :
    C (n + 3) 36 [boardD m ts rs, standD ms a b w] = .ok (tupsD (movesP ts rs ms (lft a b w) w)) := by
  rw [c36]
  have hw := c_lwinner n m a b ts rs ms w g hl h24
  have hs := c_lsteps (n + 1) m a b ts rs ms w g hl h24
  unfold standD at hw hs
  cases h : winP ts ms (lft a b w) w
  · rw [h] at hw
    have hlen := lsteps_len (l := lft a b w) (w := w) g hl h24
    have hsort := sortD_tups _ (movesOf_ne (rs := rs) (ms := ms) (w := w) (ss := lstepsP ts ms (lft a b w) w))
    simp [d36, standD, hw, hs, isNon]
    generalize hF : forL _ _ _ _ _ = F
    have key : F = .ok (.nx [.val (boardD m ts rs), .val (standD ms a b w), .val (.tup (mensD ms)), .val (.tup [.int a, .int b]), .val (.int (whoI w)), .own (.lst ((movesOf rs ms w (lstepsP ts ms (lft a b w) w)).map intT)), .emp, .emp, .emp, .emp, .emp, .emp, .emp, .emp, .emp, .emp, .emp]) := by
      rw [← hF]
      refine forL_pre pairD (fun pre => [.val (boardD m ts rs), .val (standD ms a b w), .val (.tup (mensD ms)), .val (.tup [.int a, .int b]), .val (.int (whoI w)), .own (.lst ((movesOf rs ms w pre).map intT)), .emp, .emp, .emp, .emp, .emp, .emp, .emp, .emp, .emp, .emp, .emp]) (lstepsP ts ms (lft a b w) w) [] (fun pre x post e => ?_)
      replace e : lstepsP ts ms (lft a b w) w = pre ++ x :: post := e
      obtain ⟨s1, s2, s3, s4⟩ := steps_mem g hl (l := lft a b w) (w := w) (s := x) ((steps_perm g hl _ w).mem_iff.mpr (by rw [e]; simp))
      have hpre := movesOf_len (rs := rs) (w := w) (ss := pre) h24
      have hp : pre.length ≤ 48000 := by
        have := congrArg List.length e
        simp at this; omega
      have key1 := lmove1 n m a b x.1 x.2 ts rs ms w (movesOf rs ms w pre) g3 hl h24 (by rcases s4 with s4 | s4 <;> omega) ⟨s1, s2⟩ (by omega)
      rw [movesOf_snoc, ← key1]
      rfl
    subst key
    have e := moves_eq (rs := rs) g hl (lft a b w) w
    simp [hsort, movesP, h, e, tupsD]
  · rw [h] at hw
    simp [d36, standD, hw, isNon, movesP, h, tupsD]
theorem c_done (n : Nat) (a b x y z : Int) (ms : List (Option Bool)) (w : Bool) (hx : -1 ≤ x ∧ x < ms.length) (hy : 0 ≤ y ∧ y < ms.length) (hz : z < ms.length) :
    C (n + 2) 12 [standD ms a b w, intT [x, y, z]] = .ok (standD (afterM ms x y z w) (lessA x a w) (lessB x b w) (!w)) := by
  rw [c12]
  have hw := c_with_step n ms x y w hx hy
  have e1 : ∀ {z : Int}, 0 ≤ z → z < ms.length → ixN (stepM ms x y w).length z = some z.toNat := fun {z} h1 h2 => by
    obtain ⟨k, rfl⟩ : ∃ k : Nat, z = k := ⟨z.toNat, by omega⟩
    rw [stepM_len, ixN_nat (by omega)]; rfl
  have e2 : (mensD (stepM ms x y w)).set z.toNat .non = mensD ((stepM ms x y w).set z.toNat none) := mens_set _ z.toNat none
  by_cases hz0 : 0 ≤ z
  · by_cases hx0 : x < 0
    · simp [d12, standD, intT, hw, hz0, putI, mens_len, e1 hz0 hz, e2, hx0, afterM, sub_pair0, sub_pair1, sub_lftL, ix_who, less_set hx0, who_not, Slot.isOwn]
    · obtain ⟨n1, n2⟩ := less_no (a := a) (b := b) (w := w) hx0
      simp [d12, standD, intT, hw, hz0, putI, mens_len, e1 hz0 hz, e2, hx0, afterM, n1, n2, who_not, Slot.isOwn]
  · by_cases hx0 : x < 0
    · simp [d12, standD, intT, hw, hz0, putI, mens_len, hx0, afterM, sub_pair0, sub_pair1, sub_lftL, ix_who, less_set hx0, who_not, Slot.isOwn]
    · obtain ⟨n1, n2⟩ := less_no (a := a) (b := b) (w := w) hx0
      simp [d12, standD, intT, hw, hz0, putI, mens_len, hx0, afterM, n1, n2, who_not, Slot.isOwn]
/-- the stand behind a move -/
def nextD (ms : List (Option Bool)) (a b : Int) (w : Bool) : List Int → D
  | [x, y, z] => standD (afterM ms x y z w) (lessA x a w) (lessB x b w) (!w)
  | _ => .non
theorem c_after (n : Nat) (m a b x y z : Int) (ts rs : List (List Int)) (ms : List (Option Bool)) (w : Bool) (g : Good 2 m ts) (g3 : Good 3 m rs) (hl : (ms.length : Int) = m) (h24 : ms.length ≤ 24) :
    C (n + 5) 13 [boardD m ts rs, standD ms a b w, intT [x, y, z]] = if [x, y, z] ∈ movesP ts rs ms (lft a b w) w then .ok (nextD ms a b w [x, y, z]) else .exc 0 := by
  rw [c13]
  have hm := c_moves n m a b ts rs ms w g g3 hl h24
  by_cases h : [x, y, z] ∈ movesP ts rs ms (lft a b w) w
  · obtain ⟨x', y', z', e, k⟩ := moves_mem g hl h
    cases e
    have hd := c_done (n + 2) a b x y z ms w (by rcases k.bb with k | k <;> omega) (by have := k.g0; omega) (by rcases k.tt with k | k <;> omega)
    simp [d13, hm, q_ninT, h, hd, nextD]
  · simp [d13, hm, q_ninT, h]
theorem c_lafter (n : Nat) (m a b x y z l : Int) (ts rs : List (List Int)) (ms : List (Option Bool)) (w : Bool) (hl : (ms.length : Int) = m) (k : MoveOk m ts rs ms l w x y z) :
    C (n + 1) 38 [standD ms a b w, intT [x, y, z]] = .ok (nextD ms a b w [x, y, z]) := by
  rw [c38]
  have hx : -1 ≤ x ∧ x < ms.length := by rcases k.bb with k | k <;> omega
  have hy : 0 ≤ y ∧ y < (ms.length : Int) := by have := k.g0; omega
  have hz : -1 ≤ z ∧ z < ms.length := by rcases k.tt with k | k <;> omega
  have hzy : z ≠ y := by rcases k.tt with k | k <;> omega
  have eb := men_but2 ms x y z w hx hy hz hzy
  generalize hm0 : (ms.zipIdx.map fun p => if (p.2 : Int) = x ∨ (p.2 : Int) = z then none else p.1) = m0 at eb
  have ml : m0.length = ms.length := by rw [← hm0]; simp
  obtain ⟨yn, rfl⟩ : ∃ yn : Nat, y = yn := ⟨y.toNat, by omega⟩
  have e2 : (mensD m0).set yn (.int (whoI w)) = mensD (m0.set yn (some w)) := mens_set _ yn (some w)
  have eb' : m0.set yn (some w) = afterM ms x yn z w := eb
  rw [eb'] at e2
  have hix := ixN_nat (n := m0.length) (i := yn) (by omega)
  by_cases hx0 : x < 0
  · cases w <;> simp [d38, standD, intT, k_men (fun o i => if (i : Int) = x ∨ (i : Int) = z then none else o), q_inn2, ite_ok, man_ite, hm0, putI, mens_len, hix, Slot.isOwn, e2, hx0, sub_pair0, sub_pair1, who_not, nextD, lessA, lessB] <;> simp [whoI]
  · simp [d38, standD, intT, k_men (fun o i => if (i : Int) = x ∨ (i : Int) = z then none else o), q_inn2, ite_ok, man_ite, hm0, putI, mens_len, hix, Slot.isOwn, e2, hx0, who_not, nextD, lessA, lessB]

end K16

namespace K16
open Ev
theorem s_mv (n : Nat) {m : Int} {ts rs : List (List Int)} {s : Sta} (g : Good 2 m ts) (g3 : Good 3 m rs) (hl : (s.ms.length : Int) = m) (h24 : m ≤ 24) : C (n + 4) 11 [boardD m ts rs, s.d] = .ok (tupsD (mvs ts rs s)) := c_moves n m s.a s.b ts rs s.ms s.w g g3 hl (by omega)
theorem s_wn (n : Nat) {m : Int} {ts rs : List (List Int)} {s : Sta} (g : Good 2 m ts) (hl : (s.ms.length : Int) = m) (h24 : m ≤ 24) : C (n + 3) 10 [boardD m ts rs, s.d] = .ok (if won ts s then .int (whoI !s.w) else .non) := c_winner n m s.a s.b ts rs s.ms s.w g hl (by omega)
theorem s_dn (n : Nat) {m : Int} {ts rs : List (List Int)} {s : Sta} {x : List Int} (g : Good 2 m ts) (hl : (s.ms.length : Int) = m) (h : x ∈ mvs ts rs s) : C (n + 2) 12 [s.d, intT x] = .ok (s.nxt x).d := by
  obtain ⟨x, y, z, rfl, k⟩ := mvs_mem g hl h
  exact c_done n s.a s.b x y z s.ms s.w (by rcases k.bb with k | k <;> omega) (by have := k.g0; omega) (by rcases k.tt with k | k <;> omega)
theorem n_mv {N : Nat} (hN : 4 ≤ N) {m : Int} {ts rs : List (List Int)} {s : Sta} (g : Good 2 m ts) (g3 : Good 3 m rs) (hl : (s.ms.length : Int) = m) (h24 : m ≤ 24) : C N 11 [boardD m ts rs, s.d] = .ok (tupsD (mvs ts rs s)) := by
  obtain ⟨n, rfl⟩ : ∃ n, N = n + 4 := ⟨N - 4, by omega⟩
  exact s_mv n g g3 hl h24
theorem n_wn {N : Nat} (hN : 3 ≤ N) {m : Int} {ts rs : List (List Int)} {s : Sta} (g : Good 2 m ts) (hl : (s.ms.length : Int) = m) (h24 : m ≤ 24) : C N 10 [boardD m ts rs, s.d] = .ok (if won ts s then .int (whoI !s.w) else .non) := by
  obtain ⟨n, rfl⟩ : ∃ n, N = n + 3 := ⟨N - 3, by omega⟩
  exact s_wn n g hl h24
theorem n_dn {N : Nat} (hN : 2 ≤ N) {m : Int} {ts rs : List (List Int)} {s : Sta} {x : List Int} (g : Good 2 m ts) (hl : (s.ms.length : Int) = m) (h : x ∈ mvs ts rs s) : C N 12 [s.d, intT x] = .ok (s.nxt x).d := by
  obtain ⟨n, rfl⟩ : ∃ n, N = n + 2 := ⟨N - 2, by omega⟩
  exact s_dn n g hl h
theorem s_lmv (n : Nat) {m : Int} {ts rs : List (List Int)} {s : Sta} (g : Good 2 m ts) (g3 : Good 3 m rs) (hl : (s.ms.length : Int) = m) (h24 : m ≤ 24) : C (n + 3) 36 [boardD m ts rs, s.d] = .ok (tupsD (mvs ts rs s)) := c_lmoves n m s.a s.b ts rs s.ms s.w g g3 hl (by omega)
theorem s_lwn (n : Nat) {m : Int} {ts rs : List (List Int)} {s : Sta} (g : Good 2 m ts) (hl : (s.ms.length : Int) = m) (h24 : m ≤ 24) : C (n + 2) 37 [boardD m ts rs, s.d] = .ok (if won ts s then .int (whoI !s.w) else .non) := c_lwinner n m s.a s.b ts rs s.ms s.w g hl (by omega)
theorem s_laf (n : Nat) {m : Int} {ts rs : List (List Int)} {s : Sta} {x : List Int} (g : Good 2 m ts) (hl : (s.ms.length : Int) = m) (h : x ∈ mvs ts rs s) : C (n + 1) 38 [s.d, intT x] = .ok (s.nxt x).d := by
  obtain ⟨x, y, z, rfl, k⟩ := mvs_mem g hl h
  exact c_lafter n m s.a s.b x y z s.lf ts rs s.ms s.w hl k
theorem n_lmv {N : Nat} (hN : 3 ≤ N) {m : Int} {ts rs : List (List Int)} {s : Sta} (g : Good 2 m ts) (g3 : Good 3 m rs) (hl : (s.ms.length : Int) = m) (h24 : m ≤ 24) : C N 36 [boardD m ts rs, s.d] = .ok (tupsD (mvs ts rs s)) := by
  obtain ⟨n, rfl⟩ : ∃ n, N = n + 3 := ⟨N - 3, by omega⟩
  exact s_lmv n g g3 hl h24
theorem n_lwn {N : Nat} (hN : 2 ≤ N) {m : Int} {ts rs : List (List Int)} {s : Sta} (g : Good 2 m ts) (hl : (s.ms.length : Int) = m) (h24 : m ≤ 24) : C N 37 [boardD m ts rs, s.d] = .ok (if won ts s then .int (whoI !s.w) else .non) := by
  obtain ⟨n, rfl⟩ : ∃ n, N = n + 2 := ⟨N - 2, by omega⟩
  exact s_lwn n g hl h24
theorem n_laf {N : Nat} (hN : 1 ≤ N) {m : Int} {ts rs : List (List Int)} {s : Sta} {x : List Int} (g : Good 2 m ts) (hl : (s.ms.length : Int) = m) (h : x ∈ mvs ts rs s) : C N 38 [s.d, intT x] = .ok (s.nxt x).d := by
  obtain ⟨n, rfl⟩ : ∃ n, N = n + 1 := ⟨N - 1, by omega⟩
  exact s_laf n g hl h
theorem c_how {N : Nat} (hN : 3 ≤ N) {m : Int} {ts : List (List Int)} (rs : List (List Int)) {s0 : Sta} (w : List (List Int)) (g : Good 2 m ts) (hl : (s0.ms.length : Int) = m) (h24 : m ≤ 24) :
    C (N + 1) 14 [boardD m ts rs, .lst (stasD s0 w), .int (quietP w : Nat)] = .ok (howP ts s0 w) := by
  rw [c14]
  have h1 := n_wn (N := N) hN (rs := rs) g (last_len (w := w) hl) h24
  have hc : compL (fun d => (((cmpop .eq d (lastOf s0 w).d).bind truth).bind fun k => if k = true then R.ok (some d) else R.ok none).noexc) (stasD s0 w) = .ok (((stasOf s0 w).filter fun s => eqv s.d (lastOf s0 w).d).map Sta.d) :=
    compL_filt fun s hs => by
      rw [q_eqS]
      cases eqv s.d (lastOf s0 w).d <;> rfl
  have hlen : (((stasOf s0 w).filter fun s => eqv s.d (lastOf s0 w).d).map Sta.d).length = (stasD s0 w).countP fun z => eqv z (lastOf s0 w).d := by
    unfold stasD
    rw [List.length_map, List.countP_map, List.countP_eq_length_filter]; rfl
  have hg : globD 0 = some (D.int 40) := rfl
  generalize hF : ((stasOf s0 w).filter fun s => eqv s.d (lastOf s0 w).d).map Sta.d = F at hc hlen
  have hb : blt .len [.lst F] = .ok (.int ((stasD s0 w).countP fun z => eqv z (lastOf s0 w).d : Nat)) := by
    rw [← hlen]; rfl
  unfold howP
  cases hw : won ts (lastOf s0 w)
  · rw [hw] at h1
    by_cases ht : thrP s0 w = true
    · have h3 : (3 : Int) ≤ ((stasD s0 w).countP fun z => eqv z (lastOf s0 w).d : Nat) := by
        unfold thrP at ht; have := of_decide_eq_true ht; omega
      rw [if_neg (by simp), if_pos ht]
      simp [d14, sub_stasL, h1, isNon, hc, hb, h3, -b_lenL]
    · have h3 : ¬ (3 : Int) ≤ ((stasD s0 w).countP fun z => eqv z (lastOf s0 w).d : Nat) := by
        unfold thrP at ht; intro h; exact ht (decide_eq_true (by omega))
      rw [if_neg (by simp), if_neg ht]
      by_cases hq : 40 ≤ quietP w
      · have hq' : (40 : Int) ≤ (quietP w : Nat) := by omega
        simp [d14, sub_stasL, h1, isNon, hc, hb, h3, hg, hq, hq', orBad, -b_lenL]
      · have hq' : ¬ (40 : Int) ≤ (quietP w : Nat) := by omega
        simp [d14, sub_stasL, h1, isNon, hc, hb, h3, hg, hq, hq', orBad, -b_lenL]
  · rw [hw] at h1
    have hs := won_str (!(lastOf s0 w).w)
    simp [d14, sub_stasL, h1, isNon, hs]
def bW : SL := match d40.body with
  | .cons _ (.cons _ (.cons _ (.cons _ (.cons (.whl _ b _) _)))) => b
  | _ => .nil
def bWt : E := match d40.body with
  | .cons _ (.cons _ (.cons _ (.cons _ (.cons (.whl t _ _) _)))) => t
  | _ => .cst .non
theorem quiet_loop (N : Nat) (B S : D) (w : List (List Int)) (ht : ∀ mv ∈ w, ∃ x y z, mv = [x, y, z]) (h : w.length < 100) :
    whlL (fun env => (eval (cl N) bWt (datas env)).bind truth) (execL (cl N) bW) [] 100 [.val B, .val S, .val (.lst (w.map intT)), .val .non, .val (.int 0)] = .ok (.nx [.val B, .val S, .val (.lst (w.map intT)), .val .non, .val (.int (quietP w : Nat))]) := by
  have hq := quiet_le (w := w)
  refine whl_count (fun j => [.val B, .val S, .val (.lst (w.map intT)), .val .non, .val (.int (j : Nat))]) (quietP w) (fun j hj => ?_) (fun j => rfl) ?_ (quietP w) 0 100 (by omega) (by omega)
  · obtain ⟨h1, h2⟩ := tw_lt (q := quietOf) (l := w.reverse) hj
    have hjl : j < w.length := by simpa using h1
    have e := sub_back hjl
    obtain ⟨x, y, z, hx⟩ := ht (w.reverse[j]) (List.mem_reverse.mp (List.getElem_mem h1))
    rw [hx] at e h2
    have h3 : 0 ≤ x ∧ z < 0 := by unfold quietOf at h2; simpa using h2
    have s0 : subD (intT [x, y, z]) (.int 0) = .ok (.int x) := rfl
    have s2 : subD (intT [x, y, z]) (.int 2) = .ok (.int z) := rfl
    refine ⟨by simp [bWt, d40, hjl, e, s0, s2, h3.1, h3.2], by simp [bW, d40]⟩
  · by_cases hl : quietP w < w.length
    · have h1 : (w.reverse.takeWhile quietOf).length < w.reverse.length := by simpa [quietP] using hl
      have h2 := tw_eq h1
      have e := sub_back hl
      obtain ⟨x, y, z, hx⟩ := ht (w.reverse[(w.reverse.takeWhile quietOf).length]) (List.mem_reverse.mp (List.getElem_mem h1))
      rw [hx] at h2
      have e' : subD (.lst (w.map intT)) (.int (-1 - (quietP w : Int))) = .ok (intT [x, y, z]) := by rw [e]; congr 2
      have s0 : subD (intT [x, y, z]) (.int 0) = .ok (.int x) := rfl
      have s2 : subD (intT [x, y, z]) (.int 2) = .ok (.int z) := rfl
      by_cases hx0 : 0 ≤ x
      · have hz : ¬ z < 0 := by unfold quietOf at h2; simp [hx0] at h2; omega
        simp [bWt, d40, hl, e', s0, s2, hx0, hz]
      · simp [bWt, d40, hl, e', s0, s2, hx0]
    · have hl' : ¬ (quietP w : Int) < (w.length : Nat) := by omega
      simp [bWt, d40, hl]
theorem c_lhow {N : Nat} (hN : 2 ≤ N) {m : Int} {ts : List (List Int)} (rs : List (List Int)) {s0 : Sta} (w : List (List Int)) (g : Good 2 m ts) (hl : (s0.ms.length : Int) = m) (h24 : m ≤ 24) (ht : ∀ mv ∈ w, ∃ x y z, mv = [x, y, z]) (h : w.length < 100) :
    C (N + 1) 40 [boardD m ts rs, .lst (stasD s0 w), .lst (w.map intT)] = .ok (howP ts s0 w) := by
  rw [c40]
  have h1 := n_lwn (N := N) hN (rs := rs) g (last_len (w := w) hl) h24
  have hc := count_stas s0 w (lastOf s0 w)
  have lp := quiet_loop N (boardD m ts rs) (.lst (stasD s0 w)) w ht h
  simp only [bW, bWt, d40] at lp
  simp at lp
  unfold howP
  cases hw : won ts (lastOf s0 w)
  · rw [hw] at h1
    by_cases hth : thrP s0 w = true
    · have h3 : (2 : Int) < ((stasD s0 w).countP fun z => eqv z (lastOf s0 w).d : Nat) := by
        unfold thrP at hth; have := of_decide_eq_true hth; omega
      rw [if_neg (by simp), if_pos hth]
      simp [d40, sub_stasL, h1, isNon, hc, h3]
    · have h3 : ¬ (2 : Int) < ((stasD s0 w).countP fun z => eqv z (lastOf s0 w).d : Nat) := by
        unfold thrP at hth; intro h; exact hth (decide_eq_true (by omega))
      rw [if_neg (by simp), if_neg hth]
      by_cases hq : 40 ≤ quietP w
      · have hq' : (40 : Int) ≤ (quietP w : Nat) := by omega
        simp [d40, sub_stasL, h1, isNon, hc, h3, lp, hq, hq']
      · have hq' : ¬ (40 : Int) ≤ (quietP w : Nat) := by omega
        simp [d40, sub_stasL, h1, isNon, hc, h3, lp, hq, hq']
  · rw [hw] at h1
    have hs := won_str (!(lastOf s0 w).w)
    simp [d40, sub_stasL, h1, isNon, hs]
theorem n_af {N : Nat} (hN : 5 ≤ N) {m : Int} {ts rs : List (List Int)} {s : Sta} {x : List Int} (g : Good 2 m ts) (g3 : Good 3 m rs) (hl : (s.ms.length : Int) = m) (h24 : m ≤ 24) (h : x ∈ mvs ts rs s) : C N 13 [boardD m ts rs, s.d, intT x] = .ok (s.nxt x).d := by
  obtain ⟨n, rfl⟩ : ∃ n, N = n + 5 := ⟨N - 5, by omega⟩
  obtain ⟨x, y, z, rfl, k⟩ := mvs_mem g hl h
  have e := c_after n m s.a s.b x y z ts rs s.ms s.w g g3 hl (by omega)
  rw [if_pos (by exact h)] at e
  exact e
def begS (m M : Int) : Sta := ⟨List.replicate m.toNat none, M, M, false⟩
theorem beg_len {m M : Int} (h : 0 ≤ m) : ((begS m M).ms.length : Int) = m := by
  show ((List.replicate m.toNat (none : Option Bool)).length : Int) = m
  rw [List.length_replicate]; omega
theorem beg_eq {m M : Int} : D.tup [.tup (mensD (List.replicate m.toNat none)), .tup [.int M, .int M], .int 0] = (begS m M).d := rfl
def bP : SL := forB (tailS 2 d15.body)
/-- one move of a game is made -/
theorem play1 (N : Nat) (hN : 5 ≤ N) {m : Int} {ts rs : List (List Int)} {s0 : Sta} (M W : D) (pre : List (List Int)) (mv : List Int) (g : Good 2 m ts) (g3 : Good 3 m rs) (hl : (s0.ms.length : Int) = m) (h24 : m ≤ 24) (hp : pre.length < 1000) (hon : onP ts s0 pre = true) (hm : mv ∈ mvs ts rs (lastOf s0 pre)) :
    stepR [5] (execL (cl N) bP [.val (boardD m ts rs), .val M, .val W, .own (.lst (stasD s0 pre)), .val (.int (quietP pre : Nat)), .val (intT mv), .emp]) =
      .ok [.val (boardD m ts rs), .val M, .val W, .own (.lst (stasD s0 (pre ++ [mv]))), .val (.int (quietP (pre ++ [mv]) : Nat)), .emp, .emp] := by
  obtain ⟨n, rfl⟩ : ∃ n, N = n + 1 := ⟨N - 1, by omega⟩
  have h1 := c_how (N := n) (by omega) rs pre g hl h24
  have h2 := n_af (N := n + 1) (by omega) g g3 (last_len (w := pre) hl) h24 hm
  have hn := nl_sta ((lastOf s0 pre).nxt mv)
  have hll : (stasD s0 pre).length < LIM := by rw [stasD_len]; unfold LIM; omega
  obtain ⟨x, y, z, rfl, k⟩ := mvs_mem g (last_len (w := pre) hl) hm
  have i0 : subD (intT [x, y, z]) (.int 0) = .ok (.int x) := rfl
  have i2 : subD (intT [x, y, z]) (.int 2) = .ok (.int z) := rfl
  rw [stasD_snoc, quiet_snoc]
  by_cases hx : x < 0
  · have hq : quietOf [x, y, z] = false := by unfold quietOf; simp; omega
    simp [bP, forB, tailS, d15, h1, how_ne, hon, sub_stasL, h2, hn, hll, ownL, i0, i2, hx, hq]
  · by_cases hz : 0 ≤ z
    · have hq : quietOf [x, y, z] = false := by unfold quietOf; simp; omega
      simp [bP, forB, tailS, d15, h1, how_ne, hon, sub_stasL, h2, hn, hll, ownL, i0, i2, hx, hz, hq]
    · have hq : quietOf [x, y, z] = true := by unfold quietOf; simp; omega
      simp [bP, forB, tailS, d15, h1, how_ne, hon, sub_stasL, h2, hn, hll, ownL, i0, i2, hx, hz, hq]
theorem play_loop (N : Nat) (hN : 5 ≤ N) {m : Int} {ts rs : List (List Int)} {s0 : Sta} (M W : D) (w : List (List Int)) (g : Good 2 m ts) (g3 : Good 3 m rs) (hl : (s0.ms.length : Int) = m) (h24 : m ≤ 24) (hw : w.length < 1000) (hv : Val ts rs s0 w) :
    forL (execL (cl N) bP) (.one 5) [5] (w.map intT) [.val (boardD m ts rs), .val M, .val W, .own (.lst (stasD s0 [])), .val (.int (quietP [] : Nat)), .emp, .emp] =
      .ok (.nx [.val (boardD m ts rs), .val M, .val W, .own (.lst (stasD s0 w)), .val (.int (quietP w : Nat)), .emp, .emp]) :=
  forL_pre intT (fun pre => [.val (boardD m ts rs), .val M, .val W, .own (.lst (stasD s0 pre)), .val (.int (quietP pre : Nat)), .emp, .emp]) w [] fun pre x post e => by
    have e : w = pre ++ x :: post := by simpa using e
    obtain ⟨h1, h2⟩ := hv pre x post e
    exact play1 N hN M W pre x g g3 hl h24 (by rw [e] at hw; simp at hw; omega) h1 h2
theorem c_played {N : Nat} (hN : 5 ≤ N) {m M : Int} {ts rs : List (List Int)} (w : List (List Int)) (g : Good 2 m ts) (g3 : Good 3 m rs) (h0 : 0 ≤ m) (h24 : m ≤ 24) (hw : w.length < 1000) (hv : Val ts rs (begS m M) w) :
    C (N + 1) 15 [boardD m ts rs, .int M, .tup (w.map intT)] = .ok (.tup [.tup (stasD (begS m M) w), howP ts (begS m M) w]) := by
  rw [c15]
  have okm : okR m = true := by simp [okR]; omega
  have hl := beg_len (M := M) h0
  have lp := play_loop N hN (.int M) (.tup (w.map intT)) w g g3 hl h24 hw hv
  obtain ⟨n, rfl⟩ : ∃ n, N = n + 1 := ⟨N - 1, by omega⟩
  have h1 := c_how (N := n) (by omega) rs w g hl h24
  have e0 : D.lst (stasD (begS m M) []) = .lst [(begS m M).d] := rfl
  have e1 : ((quietP [] : Nat) : Int) = 0 := rfl
  rw [e0, e1] at lp
  simp only [bP, forB, tailS, d15] at lp
  simp [d15, sub_many, okm, k_nones, beg_eq, lp, h1]
theorem n_played {N : Nat} (hN : 6 ≤ N) {m M : Int} {ts rs : List (List Int)} (w : List (List Int)) (g : Good 2 m ts) (g3 : Good 3 m rs) (h0 : 0 ≤ m) (h24 : m ≤ 24) (hw : w.length < 1000) (hv : Val ts rs (begS m M) w) :
    C N 15 [boardD m ts rs, .int M, .tup (w.map intT)] = .ok (.tup [.tup (stasD (begS m M) w), howP ts (begS m M) w]) := by
  obtain ⟨n, rfl⟩ : ∃ n, N = n + 1 := ⟨N - 1, by omega⟩
  exact c_played (by omega) w g g3 h0 h24 hw hv
theorem c_game {N : Nat} (hN : 6 ≤ N) {m M : Int} {ts rs : List (List Int)} (w : List (List Int)) (g : Good 2 m ts) (g3 : Good 3 m rs) (h0 : 0 ≤ m) (h24 : m ≤ 24) (hw : w.length < 1000) (hv : Val ts rs (begS m M) w) :
    C (N + 1) 16 [boardD m ts rs, .int M, .tup (w.map intT)] = .ok (.tup [(lastOf (begS m M) w).d, howP ts (begS m M) w]) := by
  rw [c16]
  have h := n_played hN w g g3 h0 h24 hw hv
  simp [d16, h, sub_stasT]
theorem c_stands_of {N : Nat} (hN : 6 ≤ N) {m M : Int} {ts rs : List (List Int)} (w : List (List Int)) (g : Good 2 m ts) (g3 : Good 3 m rs) (h0 : 0 ≤ m) (h24 : m ≤ 24) (hw : w.length < 1000) (hv : Val ts rs (begS m M) w) :
    C (N + 1) 17 [boardD m ts rs, .int M, .tup (w.map intT)] = .ok (.tup (stasD (begS m M) w)) := by
  rw [c17]
  have h := n_played hN w g g3 h0 h24 hw hv
  simp [d17, h, sub_two0]

end K16

namespace K16
open Ev
theorem c_mix (n : Nat) (c p m : Int) (hp : 0 < p) (hm : 0 < m) : C (n + 1) 30 [.int c, .int p, .int m] = .ok (.int (c * 48271 % p % m)) := by
  rw [c30]
  simp [d30, hp, hm, small]
theorem c_cell (n : Nat) (ns : List Int) (k : Nat) : ∃ c : Int, C (n + 1) 29 [.scr ns, .int k] = .ok (.int c) := by
  rw [c29]
  by_cases h : k < ns.length
  · exact ⟨ns[k], by simp [d29, h, subD, atI_nat h, orBad]⟩
  · exact ⟨0, by simp [d29, h]⟩
def bG : SL := match d41.body with
  | .cons _ (.cons _ (.cons (.whl _ b _) _)) => b
  | _ => .nil
def bGt : E := match d41.body with
  | .cons _ (.cons _ (.cons (.whl t _ _) _)) => t
  | _ => .cst .non
theorem rest1 (N : Nat) (hN : 3 ≤ N) {m c : Int} {ts rs : List (List Int)} {s0 : Sta} (M X Q SD : D) (tf : Bool) (w K : List (List Int)) (g : Good 2 m ts) (g3 : Good 3 m rs) (hl : (s0.ms.length : Int) = m) (h24 : m ≤ 24) (hw : w.length < 40) (hv : Val ts rs s0 w)
    (hK : ∀ mv ∈ K, mv ∈ mvs ts rs (lastOf s0 w)) (hne : 0 < K.length) (k1 : blt .len [SD] = .ok (.int (K.length : Nat))) (k2 : ∀ i (h : i < K.length), subD SD (.int (i : Nat)) = .ok (intT K[i])) (k3 : ∀ t, cmpop .inn (intT t) SD = .ok (.bl (decide (t ∈ K)))) :
    ∃ mv ∈ K, stepR [7, 8, 9, 10] (execL (cl N) (tailS 3 bG) [.val (boardD m ts rs), .val M, .val (.int c), .val X, .val (.bl tf), .own (.lst (stasD s0 w)), .own (.lst (w.map intT)), .val SD, .val Q, .emp, .emp]) =
      .ok [.val (boardD m ts rs), .val M, .val (.int c), .val X, .val (.bl tf), .own (.lst (stasD s0 (w ++ [mv]))), .own (.lst ((w ++ [mv]).map intT)), .emp, .emp, .emp, .emp] := by
  obtain ⟨n, rfl⟩ : ∃ n, N = n + 1 := ⟨N - 1, by omega⟩
  have hpos : (0 : Int) < (K.length : Nat) := by omega
  have y2 : C (n + 1) 30 [.int (c + 13 * (w.length : Nat)), .int 9697, .int (K.length : Nat)] = .ok (.int (mixI (c + 13 * (w.length : Nat)) 9697 (K.length : Nat))) := c_mix n _ _ _ (by omega) hpos
  obtain ⟨r1, r2⟩ := mix_rng (c + 13 * (w.length : Nat)) 9697 (K.length : Nat) hpos
  generalize mixI (c + 13 * (w.length : Nat)) 9697 (K.length : Nat) = i at *
  obtain ⟨i, rfl⟩ : ∃ i' : Nat, i = i' := ⟨i.toNat, by omega⟩
  have hi : i < K.length := by omega
  have hs := k2 i hi
  have hmem := List.getElem_mem hi
  have haf : ∀ mv ∈ K, C (n + 1) 38 [(lastOf s0 w).d, intT mv] = .ok ((lastOf s0 w).nxt mv).d := fun mv h => n_laf (by omega) g (last_len hl) (hK mv h)
  generalize hmv : K[i] = mv at *
  have a1 := haf mv hmem
  have n1 := nl_sta ((lastOf s0 w).nxt mv)
  have n3 := nl_intT mv
  have l1 : (stasD s0 w).length < LIM := by rw [stasD_len]; unfold LIM; omega
  have l2 : w.length < LIM := by unfold LIM; omega
  have lenW := len_lsts w
  by_cases hgo : tf = true ∧ 1 < w.length
  · obtain ⟨rfl, hw1⟩ := hgo
    have hb := sub_back (w := w) (j := 1) hw1
    have hmr : w.reverse[1]'(by simpa using hw1) ∈ w := List.mem_reverse.mp (List.getElem_mem _)
    obtain ⟨x, y, z, hx⟩ := val_tri g hl hv hmr
    rw [hx] at hb
    replace hb : subD (.lst (w.map intT)) (.int (-2)) = .ok (intT [x, y, z]) := hb
    have i0 : subD (intT [x, y, z]) (.int 0) = .ok (.int x) := rfl
    have i1 : subD (intT [x, y, z]) (.int 1) = .ok (.int y) := rfl
    have hw2 : (1 : Int) < (w.length : Nat) := by omega
    by_cases hx0 : 0 ≤ x
    · have n2 := nl_intT [y, x, -1]
      by_cases hin : [y, x, -1] ∈ K
      · have a2 := haf _ hin
        have n4 := nl_sta ((lastOf s0 w).nxt [y, x, -1])
        refine ⟨_, hin, ?_⟩
        simp [bG, tailS, d41, small, k1, y2, hs, hb, i0, i1, hw1, hw2, hx0, tr3, n2, n3, k3, hin, ownL, l1, l2, sub_stasL, a2, n4, stasD_snoc]
      · refine ⟨mv, hmem, ?_⟩
        simp [bG, tailS, d41, small, k1, y2, hs, hb, i0, i1, hw1, hw2, hx0, tr3, n2, n3, k3, hin, ownL, l1, l2, sub_stasL, a1, n1, stasD_snoc]
    · refine ⟨mv, hmem, ?_⟩
      simp [bG, tailS, d41, small, k1, y2, hs, hb, i0, i1, hw1, hw2, hx0, n3, ownL, l1, l2, sub_stasL, a1, n1, stasD_snoc]
  · refine ⟨mv, hmem, ?_⟩
    cases tf
    · simp [bG, tailS, d41, small, k1, y2, hs, n3, ownL, l1, l2, sub_stasL, a1, n1, stasD_snoc]
    · have hw1 : ¬ 1 < w.length := fun h => hgo ⟨rfl, h⟩
      have hw2 : ¬ (1 : Int) < (w.length : Nat) := by omega
      simp [bG, tailS, d41, small, k1, y2, hs, hw1, hw2, n3, ownL, l1, l2, sub_stasL, a1, n1, stasD_snoc]
theorem c_begin (n : Nat) {m M : Int} {ts rs : List (List Int)} (h0 : 0 ≤ m) (h24 : m ≤ 24) : C (n + 1) 39 [boardD m ts rs, .int M] = .ok (begS m M).d := by
  rw [c39]
  have okm : okR m = true := by simp [okR]; omega
  simp [d39, sub_many, okm, k_nones, beg_eq]
def quietQ (mv : List Int) : Bool := match mv with
  | [_, _, z] => decide (z < 0)
  | _ => false
theorem pick1 (N : Nat) (hN : 3 ≤ N) {m c : Int} {ts rs : List (List Int)} {s0 : Sta} (M X : D) (tf : Bool) (w : List (List Int)) (g : Good 2 m ts) (g3 : Good 3 m rs) (hl : (s0.ms.length : Int) = m) (h24 : m ≤ 24) (hw : w.length < 40) (hv : Val ts rs s0 w) (hon : onP ts s0 w = true) :
    ∃ mv ∈ mvs ts rs (lastOf s0 w), stepR [7, 8, 9, 10] (execL (cl N) bG [.val (boardD m ts rs), .val M, .val (.int c), .val X, .val (.bl tf), .own (.lst (stasD s0 w)), .own (.lst (w.map intT)), .emp, .emp, .emp, .emp]) =
      .ok [.val (boardD m ts rs), .val M, .val (.int c), .val X, .val (.bl tf), .own (.lst (stasD s0 (w ++ [mv]))), .own (.lst ((w ++ [mv]).map intT)), .emp, .emp, .emp, .emp] := by
  have h1 := n_lmv (N := N) hN g g3 (last_len (w := w) hl) h24
  have hnl := nl_tups (mvs ts rs (lastOf s0 w))
  have hf : ∀ f : D → R (Option D), (∀ x ∈ mvs ts rs (lastOf s0 w), f (intT x) = .ok (if quietQ x = true then some (intT x) else none)) → compL f ((mvs ts rs (lastOf s0 w)).map intT) = .ok (((mvs ts rs (lastOf s0 w)).filter quietQ).map intT) := fun f h => k_tupsF quietQ intT h
  have hq : compL (fun d => (((subD d (.int 2)).bind fun x => cmpop .lt x (.int 0)).bind truth |>.bind fun k => if k = true then R.ok (some d) else R.ok none).noexc) ((mvs ts rs (lastOf s0 w)).map intT) = .ok (((mvs ts rs (lastOf s0 w)).filter quietQ).map intT) := hf _ fun x hx => by
    obtain ⟨a, b, z, rfl, _⟩ := mvs_mem g (last_len (w := w) hl) hx
    have i2 : subD (intT [a, b, z]) (.int 2) = .ok (.int z) := rfl
    rw [i2]
    by_cases hz : z < 0
    · simp [quietQ, hz]
    · simp [quietQ, hz]
  have hne : 0 < (mvs ts rs (lastOf s0 w)).length := by
    have := mvs_none (ts := ts) (rs := rs) (s := lastOf s0 w)
    have hw : won ts (lastOf s0 w) = false := by
      unfold onP at hon; cases h : won ts (lastOf s0 w) <;> simp [h] at hon <;> rfl
    rw [hw] at this
    cases h : mvs ts rs (lastOf s0 w) with
    | nil => rw [h] at this; cases this
    | cons _ _ => simp
  generalize hK : mvs ts rs (lastOf s0 w) = K at *
  generalize hL : K.filter quietQ = L at *
  have hLK : ∀ mv ∈ L, mv ∈ K := fun mv h => by rw [← hL] at h; exact (List.mem_filter.mp h).1
  have el : ∀ e, execL (cl N) bG e = _ := fun e => exec_split (cl N) 3 bG e
  by_cases hb : tf = true ∧ 0 < L.length
  · obtain ⟨rfl, hb⟩ := hb
    obtain ⟨mv, hm, e⟩ := rest1 N hN (c := c) M X (.lst (L.map intT)) (.lst (L.map intT)) true w L g g3 hl h24 hw hv (fun mv h => by rw [hK]; exact hLK mv h) hb (len_lsts L) (fun i h => sub_lsts h) (fun t => q_inTL t L)
    refine ⟨mv, hLK mv hm, ?_⟩
    have hb' : L.isEmpty = false := by cases L with | nil => simp at hb | cons _ _ => rfl
    have hb2 : (L.map intT).isEmpty = false := by rw [List.isEmpty_map]; exact hb'
    have hh : execL (cl N) (takeS 3 bG) [.val (boardD m ts rs), .val M, .val (.int c), .val X, .val (.bl true), .own (.lst (stasD s0 w)), .own (.lst (w.map intT)), .emp, .emp, .emp, .emp] = .ok (.nx [.val (boardD m ts rs), .val M, .val (.int c), .val X, .val (.bl true), .own (.lst (stasD s0 w)), .own (.lst (w.map intT)), .val (.lst (L.map intT)), .val (.lst (L.map intT)), .emp, .emp]) := by
      simp [bG, takeS, d41, sub_stasL, h1, hnl, elems_tups, hq, hb', hb2]
    rw [el, hh]
    exact e
  · obtain ⟨mv, hm, e⟩ := rest1 N hN (c := c) M X (.lst (L.map intT)) (tupsD K) tf w K g g3 hl h24 hw hv (fun mv h => by rw [hK]; exact h) hne (len_tups K) (fun i h => sub_tups h) (fun t => q_inT t K)
    refine ⟨mv, hm, ?_⟩
    have hh : execL (cl N) (takeS 3 bG) [.val (boardD m ts rs), .val M, .val (.int c), .val X, .val (.bl tf), .own (.lst (stasD s0 w)), .own (.lst (w.map intT)), .emp, .emp, .emp, .emp] = .ok (.nx [.val (boardD m ts rs), .val M, .val (.int c), .val X, .val (.bl tf), .own (.lst (stasD s0 w)), .own (.lst (w.map intT)), .val (tupsD K), .val (.lst (L.map intT)), .emp, .emp]) := by
      cases tf
      · simp [bG, takeS, d41, sub_stasL, h1, hnl, elems_tups, hq]
      · have hb0 : L = [] := by cases hLn : L with | nil => rfl | cons _ _ => exact absurd ⟨rfl, by rw [hLn]; simp⟩ hb
        subst hb0
        simp [bG, takeS, d41, sub_stasL, h1, hnl, elems_tups, hq]
    rw [el, hh]
    exact e
theorem c_dgame {N : Nat} (hN : 3 ≤ N) {m M c : Int} {ts rs : List (List Int)} (tf : Bool) (g : Good 2 m ts) (g3 : Good 3 m rs) (h0 : 0 ≤ m) (h24 : m ≤ 24) :
    ∃ w : List (List Int), w.length ≤ 40 ∧ Val ts rs (begS m M) w ∧ C (N + 1) 41 [boardD m ts rs, .int M, .int c, .int 40, .bl tf] = .ok (.tup [.lst (stasD (begS m M) w), .lst (w.map intT)]) := by
  rw [c41]
  have hl := beg_len (M := M) h0
  obtain ⟨n, rfl⟩ : ∃ n, N = n + 1 := ⟨N - 1, by omega⟩
  have hb := c_begin n (M := M) (ts := ts) (rs := rs) h0 h24
  obtain ⟨j, e, lp, w, hw, h40, hv, rfl⟩ := whl_rel (test := fun env => (eval (cl (n + 1)) bGt (datas env)).bind truth) (body := execL (cl (n + 1)) bG) (fg := [7, 8, 9, 10])
    (fun j env => ∃ w : List (List Int), w.length = j ∧ j ≤ 40 ∧ Val ts rs (begS m M) w ∧ env = [.val (boardD m ts rs), .val (.int M), .val (.int c), .val (.int 40), .val (.bl tf), .own (.lst (stasD (begS m M) w)), .own (.lst (w.map intT)), .emp, .emp, .emp, .emp]) 40 (fun j env h => by
      obtain ⟨w, rfl, h40, hv, rfl⟩ := h
      by_cases hj : w.length < 40
      · have h1 := c_lhow (N := n) (by omega) rs w g hl h24 (fun mv hm => val_tri g hl hv hm) (by omega)
        have hj' : (w.length : Int) < 40 := by omega
        cases ho : onP ts (begS m M) w
        · left
          simp [bGt, d41, hj, hj', h1, how_eq, ho]
        · right
          obtain ⟨mv, hm, e⟩ := pick1 (n + 1) hN (c := c) (.int M) (.int 40) tf w g g3 hl h24 hj hv ho
          exact ⟨hj, by simp [bGt, d41, hj, hj', h1, how_eq, ho], _, e, w ++ [mv], by simp, by omega, val_snoc hv ho hm, rfl⟩
      · left
        have hj' : ¬ (w.length : Int) < 40 := by omega
        simp [bGt, d41, hj, hj']) 40 0 100 [.val (boardD m ts rs), .val (.int M), .val (.int c), .val (.int 40), .val (.bl tf), .own (.lst (stasD (begS m M) [])), .own (.lst ([].map intT)), .emp, .emp, .emp, .emp] (by omega) (by omega) ⟨[], rfl, by omega, val_nil, rfl⟩
  refine ⟨w, by omega, hv, ?_⟩
  have e0 : D.lst (stasD (begS m M) []) = .lst [(begS m M).d] := rfl
  rw [e0] at lp
  simp only [bG, bGt, d41] at lp
  simp at lp
  simp [d41, hb, lp]

end K16

namespace K16
open Ev
def dicT (ts : List (List Int)) : D := .dic (setK (dedK ts) (.bl true))
theorem c_kept (n s : Nat) (hs : 0 < s) {m : Int} (js : List (List Int)) (new : List Int) (g : Good s m js) (hm : (new.length : Int) ≤ m) (hm2 : m ≤ 1000) :
    C (n + 1) 23 [tupsD js, dicT js, intT new] = .ok (.bl (keptP js new)) := by
  rw [c23]
  have e0 : blt .len [intT new] = .ok (.int (new.length : Nat)) := by
    show R.ok (D.int ((new.map D.int).length : Nat)) = _
    rw [List.length_map]
  have lp : forL (execL (cl n) (forB (tailS 1 d23.body))) (.one 4) [4] (js.map intT) [.val (tupsD js), .val (dicT js), .val (intT new), .val (.int ((new.length : Nat) - 1)), .emp, .emp] =
      match js.findSome? fun t => if (!decide (maxL t = (new.length : Int) - 1) || decide (imgP new t ∈ js)) = true then none else some (D.bl false) with
      | some d => .ok (.rt d)
      | none => .ok (.nx [.val (tupsD js), .val (dicT js), .val (intT new), .val (.int ((new.length : Nat) - 1)), .emp, .emp]) :=
    forL_find intT _ fun t ht => by
      refine ⟨_, rfl, ?_⟩
      have el := g.el t ht
      have hne : t ≠ [] := fun e => by have := el.len; rw [e] at this; simp at this; omega
      have h1 := b_mx1T hne
      by_cases hx : maxL t = (new.length : Int) - 1
      · have hr : ∀ p ∈ t, 0 ≤ p ∧ p < (new.length : Nat) := fun p hp => ⟨(el.rng p hp).1, by have := maxL_ge hp; omega⟩
        have k1 : compL (fun d => ((subD (intT new) d).bind fun x => R.ok (some x)).noexc) (t.map D.int) = .ok ((t.map (atL new)).map D.int) := by
          rw [compL_map (g := fun p => D.int (atL new p)) fun p hp => by rw [sub_atL (hr p hp)]; rfl, List.map_map]; rfl
        have k2 := sortD_ints (t.map (atL new))
        have k3 : D.tup ((sortI (t.map (atL new))).map D.int) = intT (imgP new t) := rfl
        have k4 : cmpop .nin (intT (imgP new t)) (dicT js) = _ := q_ninD (imgP new t) js (.bl true)
        have he : elems (intT t) = .ok (t.map D.int) := rfl
        by_cases hin : imgP new t ∈ js
        · rw [if_pos (by simp [hin])]
          generalize imgP new t = I at *
          generalize t.map (atL new) = V at *
          simp [forB, tailS, d23, h1, hx, he, k1, k2, k3, k4, hin]
        · rw [if_neg (by simp [hx, hin])]
          generalize imgP new t = I at *
          generalize t.map (atL new) = V at *
          simp [forB, tailS, d23, h1, hx, he, k1, k2, k3, k4, hin]
      · rw [if_pos (by simp [hx])]
        simp [forB, tailS, d23, h1, hx]
  have hf : (js.findSome? fun t => if (!decide (maxL t = (new.length : Int) - 1) || decide (imgP new t ∈ js)) = true then none else some (D.bl false)) = if keptP js new = true then none else some (.bl false) := by
    have fp : ∀ (q : List Int → Bool) (xs : List (List Int)), (xs.findSome? fun x => if q x = true then none else some (D.bl false)) = if xs.all q = true then none else some (.bl false) := by
      intro q xs
      induction xs with
      | nil => rfl
      | cons x xs ih =>
        rw [List.findSome?_cons, List.all_cons, ih]
        cases q x <;> simp
    exact fp _ js
  rw [hf] at lp
  simp only [forB, tailS, d23] at lp
  cases hk : keptP js new
  · rw [hk] at lp
    simp [d23, e0, elems_tups, lp]
  · rw [hk] at lp
    simp [d23, e0, elems_tups, lp]
def bP1 : SL := forB (tailS 4 d24.body)
def bP2 : SL := forB (tailS 1 bP1)
def bP3 : SL := forB bP2
theorem turn_goal (n : Nat) {m : Int} {ts rs : List (List Int)} (X Y Z W : D) (a : List Int) (g : Int) (acc : List (List Int)) (g2 : Good 2 m ts) (g3 : Good 3 m rs) (ha : (a.length : Int) < m) (hm2 : m ≤ 1000) (hacc : acc.length < 4000000) :
    stepR [10, 11] (execL (cl (n + 1)) bP3 [.val X, .val (.int m), .val (tupsD ts), .val (tupsD rs), .val (dicT ts), .val (dicT rs), .val Y, .val Z, .own (.lst (acc.map intT)), .val (intT a), .val (.int g), .emp, .emp, .emp]) =
      .ok [.val X, .val (.int m), .val (tupsD ts), .val (tupsD rs), .val (dicT ts), .val (dicT rs), .val Y, .val Z, .own (.lst ((acc ++ if okG ts rs a g = true then [a ++ [g]] else []).map intT)), .val (intT a), .emp, .emp, .emp, .emp] := by
  have hadd : binop .add (intT a) (.tup [.int g]) = .ok (intT (a ++ [g])) := by
    show chk (decide ((a.map D.int).length + 1 ≤ LIM)) (R.ok (D.tup (a.map D.int ++ [.int g]))) = _
    have : (a.map D.int).length + 1 ≤ LIM := by rw [List.length_map]; unfold LIM; omega
    rw [decide_eq_true this]
    unfold intT
    rw [List.map_append]; rfl
  have hn := q_ninI g a
  have k2 := c_kept n 2 (by omega) ts (a ++ [g]) g2 (by simp; omega) hm2
  have k3 := c_kept n 3 (by omega) rs (a ++ [g]) g3 (by simp; omega) hm2
  have hl : acc.length < LIM := by unfold LIM; omega
  unfold okG
  cases h1 : inR g a
  · rw [h1] at hn
    cases h2 : keptP ts (a ++ [g])
    · rw [h2] at k2
      simp [bP3, bP2, bP1, forB, tailS, d24, hadd, hn, k2]
    · rw [h2] at k2
      cases h3 : keptP rs (a ++ [g])
      · rw [h3] at k3
        simp [bP3, bP2, bP1, forB, tailS, d24, hadd, hn, k2, k3]
      · rw [h3] at k3
        simp [bP3, bP2, bP1, forB, tailS, d24, hadd, hn, k2, k3, ownL, hl]
  · rw [h1] at hn
    simp [bP3, bP2, bP1, forB, tailS, d24, hadd, hn]
theorem grow1_len {m : Int} {ts rs : List (List Int)} {a : List Int} : (grow1 m ts rs a).length ≤ m.toNat := by
  unfold grow1
  rw [List.length_map]
  refine Nat.le_trans (List.length_filter_le _ _) ?_
  unfold ptsP
  simp
theorem turn_ahead (n : Nat) {m : Int} {ts rs : List (List Int)} (X Y Z : D) (a : List Int) (acc : List (List Int)) (g2 : Good 2 m ts) (g3 : Good 3 m rs) (h0 : 0 ≤ m) (ha : (a.length : Int) < m) (hm2 : m ≤ 1000) (hacc : acc.length + m.toNat < 4000000) :
    stepR [9, 10, 11] (execL (cl (n + 1)) bP2 [.val X, .val (.int m), .val (tupsD ts), .val (tupsD rs), .val (dicT ts), .val (dicT rs), .val Y, .val Z, .own (.lst (acc.map intT)), .val (intT a), .emp, .emp, .emp, .emp]) =
      .ok [.val X, .val (.int m), .val (tupsD ts), .val (tupsD rs), .val (dicT ts), .val (dicT rs), .val Y, .val Z, .own (.lst ((acc ++ grow1 m ts rs a).map intT)), .emp, .emp, .emp, .emp, .emp] := by
  have okm : okR m = true := by simp [okR]; omega
  have lp := forL_pre (body := execL (cl (n + 1)) bP3) (tg := .one 10) (fg := [10, 11]) D.int (fun pre : List Int => [.val X, .val (.int m), .val (tupsD ts), .val (tupsD rs), .val (dicT ts), .val (dicT rs), .val Y, .val Z, .own (.lst ((acc ++ (pre.filter (okG ts rs a)).map fun g => a ++ [g]).map intT)), .val (intT a), .emp, .emp, .emp, .emp]) (ptsP m) [] fun pre x post e => by
    have e : ptsP m = pre ++ x :: post := by simpa using e
    have hl : pre.length < m.toNat := by
      have := congrArg List.length e
      unfold ptsP at this
      simp at this
      omega
    have hl2 : (acc ++ (pre.filter (okG ts rs a)).map fun g => a ++ [g]).length < 4000000 := by
      rw [List.length_append, List.length_map]
      have := List.length_filter_le (okG ts rs a) pre
      omega
    have h := turn_goal n X Y Z (.non) a x (acc ++ (pre.filter (okG ts rs a)).map fun g => a ++ [g]) g2 g3 ha hm2 hl2
    have e2 : (acc ++ (pre.filter (okG ts rs a)).map fun g => a ++ [g]) ++ (if okG ts rs a x = true then [a ++ [x]] else []) = acc ++ ((pre ++ [x]).filter (okG ts rs a)).map fun g => a ++ [g] := by
      rw [List.filter_append, List.map_append, List.append_assoc]
      cases hk : okG ts rs a x <;> simp [hk]
    rw [e2] at h
    exact h
  have e0 : (acc ++ (([] : List Int).filter (okG ts rs a)).map fun g => a ++ [g]) = acc := by simp
  have e1 : (acc ++ (([] ++ ptsP m).filter (okG ts rs a)).map fun g => a ++ [g]) = acc ++ grow1 m ts rs a := rfl
  simp only [e0, e1] at lp
  have e : bP2 = .cons (.for_ (.one 10) (.r1 (.var 1)) bP3 [10, 11] []) .nil := rfl
  rw [e]
  generalize (acc ++ grow1 m ts rs a).map intT = R at lp ⊢
  simp [okm, range_pts, lp]
theorem turn_point (n : Nat) {m : Int} {ts rs : List (List Int)} (X Z : D) (F : List (List Int)) (g2 : Good 2 m ts) (g3 : Good 3 m rs) (h0 : 0 ≤ m) (hF : ∀ a ∈ F, (a.length : Int) < m) (hm2 : m ≤ 1000) (hl : F.length * m.toNat + 1000 < 4000000) :
    stepR [7, 8, 9, 10, 11] (execL (cl (n + 1)) bP1 [.val X, .val (.int m), .val (tupsD ts), .val (tupsD rs), .val (dicT ts), .val (dicT rs), .val (.lst (F.map intT)), .val Z, .emp, .emp, .emp, .emp, .emp, .emp]) =
      .ok [.val X, .val (.int m), .val (tupsD ts), .val (tupsD rs), .val (dicT ts), .val (dicT rs), .val (.lst ((growP m ts rs F).map intT)), .emp, .emp, .emp, .emp, .emp, .emp, .emp] := by
  have lp := forL_pre (body := execL (cl (n + 1)) bP2) (tg := .one 9) (fg := [9, 10, 11]) intT (fun pre : List (List Int) => [.val X, .val (.int m), .val (tupsD ts), .val (tupsD rs), .val (dicT ts), .val (dicT rs), .val (.lst (F.map intT)), .val Z, .own (.lst ((growP m ts rs pre).map intT)), .emp, .emp, .emp, .emp, .emp]) F [] fun pre x post e => by
    have e : F = pre ++ x :: post := by simpa using e
    have hg : (growP m ts rs pre).length ≤ pre.length * m.toNat := by
      unfold growP
      exact flatMap_len fun a _ => grow1_len
    have hpl : pre.length + 1 ≤ F.length := by rw [e]; simp
    have hmul : (pre.length + 1) * m.toNat ≤ F.length * m.toNat := Nat.mul_le_mul_right _ hpl
    have hmul2 : (pre.length + 1) * m.toNat = pre.length * m.toNat + m.toNat := by rw [Nat.add_mul, Nat.one_mul]
    have h := turn_ahead n X (.lst (F.map intT)) Z x (growP m ts rs pre) g2 g3 h0 (hF x (by rw [e]; simp)) hm2 (by omega)
    have e2 : growP m ts rs pre ++ grow1 m ts rs x = growP m ts rs (pre ++ [x]) := by unfold growP; simp
    rw [e2] at h
    exact h
  have e0 : growP m ts rs [] = [] := rfl
  simp only [e0, List.nil_append, List.map_nil] at lp
  have e : bP1 = .cons (.asgO 8 (.lst .nil) []) (.cons (.for_ (.one 9) (.it (.var 6)) bP2 [9, 10, 11] []) (.cons (.asg 6 (.var 8) [8]) .nil)) := rfl
  rw [e]
  generalize (growP m ts rs F).map intT = R at lp ⊢
  simp [lp, set_ite]
theorem c_turns (n : Nat) {m : Int} {ts rs : List (List Int)} (g2 : Good 2 m ts) (g3 : Good 3 m rs) (h0 : 0 ≤ m) (hm2 : m ≤ 1000) (hB : ∀ k, k < m.toNat → (turnK m ts rs k).length * m.toNat + 1000 < 4000000) :
    C (n + 2) 24 [boardD m ts rs] = .ok (tupsD (turnsP m ts rs)) := by
  rw [c24]
  have okm : okR m = true := by simp [okR]; omega
  have kd : ∀ ts : List (List Int), compL (fun d => R.ok (some (D.tup [d, .bl true]))) (ts.map intT) = .ok (ts.map fun t => .tup [intT t, .bl true]) := fun ts => compL_map fun x hx => rfl
  have lp := forL_pre (body := execL (cl (n + 1)) bP1) (tg := .one 7) (fg := [7, 8, 9, 10, 11]) D.int (fun pre : List Int => [.val (boardD m ts rs), .val (.int m), .val (tupsD ts), .val (tupsD rs), .val (dicT ts), .val (dicT rs), .val (.lst ((turnK m ts rs pre.length).map intT)), .emp, .emp, .emp, .emp, .emp, .emp, .emp]) (ptsP m) [] fun pre x post e => by
    have e : ptsP m = pre ++ x :: post := by simpa using e
    have hl : pre.length < m.toNat := by
      have := congrArg List.length e
      unfold ptsP at this
      simp at this
      omega
    have h := turn_point n (boardD m ts rs) (.int x) (turnK m ts rs pre.length) g2 g3 h0 (fun a ha => by have := (turnK_len ha).1; omega) hm2 (hB _ hl)
    have e2 : growP m ts rs (turnK m ts rs pre.length) = turnK m ts rs (pre ++ [x]).length := by simp [turnK]
    rw [e2] at h
    exact h
  have e1 : ([] ++ ptsP m).length = m.toNat := by unfold ptsP; simp
  have e0 : (turnK m ts rs ([] : List Int).length).map intT = [.tup []] := rfl
  simp only [e1, e0] at lp
  have eb : bP1 = forB (tailS 4 d24.body) := rfl
  have hd := fun ts => b_dic ts (.bl true)
  have hdT : ∀ ts, D.dic (setK (dedK ts) (.bl true)) = dicT ts := fun _ => rfl
  unfold boardD at lp ⊢
  unfold turnsP
  generalize turnK m ts rs m.toNat = R at lp ⊢
  simp only [bP1, forB, tailS, d24] at lp
  simp [d24, elems_tups, kd, hd, hdT, okm, range_pts, lp]
  rfl
theorem c_turned (n : Nat) {m : Int} {ts rs : List (List Int)} {σ : List Int} {s : Sta} (h : IsTurn m ts rs σ) (hl : (s.ms.length : Int) = m) : C (n + 1) 25 [s.d, intT σ] = .ok (s.turn σ).d := by
  rw [c25]
  obtain ⟨ms, a, b, w⟩ := s
  have hs := h.len
  have hc : compL (fun d => R.ok (some D.non)) (mensD ms) = .ok (mensD (List.replicate ms.length none)) := by
    rw [compL_some (g := fun _ => .non) (fun d hd => rfl)]
    unfold mensD
    rw [List.map_map, List.map_replicate]
    congr 1
    apply List.ext_getElem?
    intro i
    simp [List.getElem?_replicate]
    split <;> simp_all [manD]
  have lp := forL_pre (body := execL (cl n) (forB (tailS 1 d25.body))) (tg := .tup [3, 4]) (fg := [3, 4]) (fun p : Option Bool × Nat => D.tup [.int (p.2 : Nat), manD p.1]) (fun pre => [.val (standD ms a b w), .val (intT σ), .own (.lst (mensD (pre.foldl (fun acc p => acc.set (atL σ (p.2 : Nat)).toNat p.1) (List.replicate ms.length none)))), .emp, .emp]) ms.zipIdx [] fun pre x post e => by
    have e : ms.zipIdx = pre ++ x :: post := by simpa using e
    have hx : x ∈ ms.zipIdx := by rw [e]; simp
    obtain ⟨o, i⟩ := x
    have hi : i < ms.length := by
      have := List.mem_zipIdx hx
      omega
    have e1 := sub_atL (σ := σ) (p := (i : Int)) (by have : (ms.length : Int) = m := hl; omega)
    have hr := h.at_rng (p := (i : Int)) (by have : (ms.length : Int) = m := hl; omega)
    have hlen := foldM_len σ pre (List.replicate ms.length none)
    rw [List.length_replicate] at hlen
    rw [List.foldl_append, List.foldl_cons, List.foldl_nil]
    generalize hacc : pre.foldl (fun acc p => acc.set (atL σ (p.2 : Nat)).toNat p.1) (List.replicate ms.length none) = acc at *
    have hix : ixN acc.length (atL σ (i : Int)) = some (atL σ (i : Int)).toNat := by
      have : atL σ (i : Int) = ((atL σ (i : Int)).toNat : Nat) := by omega
      have hh : (atL σ (i : Int)).toNat < acc.length := by have : (ms.length : Int) = m := hl; omega
      have e := ixN_nat hh
      rwa [← this] at e
    have hset : (mensD acc).set (atL σ (i : Int)).toNat (manD o) = mensD (acc.set (atL σ (i : Int)).toNat o) := mens_set acc _ o
    simp [forB, tailS, d25, e1, putI, mens_len, hix, hset]
  have he := enum_men ms
  have e0 : mensD (([] : List (Option Bool × Nat)).foldl (fun acc p => acc.set (atL σ (p.2 : Nat)).toNat p.1) (List.replicate ms.length none)) = mensD (List.replicate ms.length none) := rfl
  have e1 : mensD ((([] : List (Option Bool × Nat)) ++ ms.zipIdx).foldl (fun acc p => acc.set (atL σ (p.2 : Nat)).toNat p.1) (List.replicate ms.length none)) = mensD (turnM σ ms) := rfl
  simp only [e0, e1] at lp
  simp only [forB, tailS, d25] at lp
  have es : Sta.d ⟨ms, a, b, w⟩ = standD ms a b w := rfl
  have et : (Sta.turn σ ⟨ms, a, b, w⟩).d = .tup [.tup (mensD (turnM σ ms)), .tup [.int a, .int b], .int (whoI w)] := rfl
  rw [es, et]
  simp [d25, sub_men, sub_left, sub_turn, hc, he, lp]
theorem c_tpoint (n : Nat) {σ : List Int} {p : Int} (hp : p < σ.length) : C (n + 1) 26 [.int p, intT σ] = .ok (.int (tauP σ p)) := by
  rw [c26]
  have ng : negD (.int 1) = .ok (.int (-1)) := rfl
  by_cases h : p < 0
  · simp [d26, h, ng, tau_neg]
  · have e := sub_atL (σ := σ) (p := p) (by omega)
    have e2 : tauP σ p = atL σ p := tau_pos (by omega)
    simp [d26, h, e, e2]
theorem c_tmove (n : Nat) {σ mv : List Int} (hp : ∀ p ∈ mv, p < (σ.length : Int)) : C (n + 2) 27 [intT mv, intT σ] = .ok (intT (mv.map (tauP σ))) := by
  rw [c27]
  have k : compL (fun d => ((C (n + 1) 26 [d, intT σ]).bind fun x => R.ok (some x)).noexc) (mv.map D.int) = .ok ((mv.map (tauP σ)).map D.int) := by
    rw [compL_map (g := fun p => D.int (tauP σ p)) fun p hm => by rw [c_tpoint n (hp p hm)]; rfl, List.map_map]; rfl
  have he : elems (intT mv) = .ok (mv.map D.int) := rfl
  have e2 : D.tup ((mv.map (tauP σ)).map D.int) = intT (mv.map (tauP σ)) := rfl
  generalize hV : mv.map (tauP σ) = V at *
  simp [d27, he, k, e2]
def alikeP (m : Int) (ts rs : List (List Int)) (s t : Sta) : Bool := (turnsP m ts rs).any fun σ => decide ((s.turn σ).ms = t.ms ∧ s.a = t.a ∧ s.b = t.b ∧ s.w = t.w)
theorem c_alike (n : Nat) {m : Int} {ts rs : List (List Int)} {s t : Sta} (g2 : Good 2 m ts) (g3 : Good 3 m rs) (h0 : 0 ≤ m) (hm2 : m ≤ 1000) (hl : (s.ms.length : Int) = m) (hB : ∀ k, k < m.toNat → (turnK m ts rs k).length * m.toNat + 1000 < 4000000) : C (n + 3) 28 [boardD m ts rs, s.d, t.d] = .ok (.bl (alikeP m ts rs s t)) := by
  rw [c28]
  have h1 := c_turns n g2 g3 h0 hm2 hB
  have k : compL (fun d => (((C (n + 2) 25 [s.d, d]).bind fun x => cmpop .eq x t.d).bind fun x => R.ok (some x)).noexc) ((turnsP m ts rs).map intT) = .ok ((turnsP m ts rs).map fun σ => .bl (decide ((s.turn σ).ms = t.ms ∧ s.a = t.a ∧ s.b = t.b ∧ s.w = t.w))) :=
    compL_map (g := fun σ => D.bl (decide ((s.turn σ).ms = t.ms ∧ s.a = t.a ∧ s.b = t.b ∧ s.w = t.w))) fun σ hσ => by
      rw [c_turned (n + 1) (isTurn_of g2 g3 h0 hσ) hl]
      show (((cmpop .eq (s.turn σ).d t.d)).bind fun x => R.ok (some x)).noexc = _
      rw [q_eqSt]; rfl
  unfold alikeP
  simp [d28, h1, elems_tups, k]

end K16

namespace K16
open Ev
theorem gl_S (n : Nat) : orBad ((cl n).glob 1) = .ok (.tab tabS) := rfl
theorem gl_M (n : Nat) : orBad ((cl n).glob 2) = .ok (.tab tabM) := rfl
theorem c_wholeI (n : Nat) (i lo hi : Int) : C (n + 1) 0 [.int i, .int lo, .int hi] = .ok (.bl (decide (lo ≤ i) && decide (i ≤ hi))) := by
  rw [c0]
  by_cases h : lo ≤ i
  · simp [d0, h]
  · simp [d0, h]
theorem c_man (n : Nat) (o : Option Bool) : (R.ok (D.bl (isNon (manD o)))).bind (fun d => (truth d).bind fun t => if t = false then C (n + 1) 0 [manD o, .int 0, .int 1] else R.ok d) = .ok (.bl true) := by
  cases o with
  | none => rfl
  | some b =>
    have h := c_wholeI n (whoI b) 0 1
    have e : manD (some b) = .int (whoI b) := rfl
    rw [e, h]
    cases b <;> rfl
theorem c_isstand (n : Nat) (m a b : Int) (ts rs : List (List Int)) (ms : List (Option Bool)) (w : Bool) (ha : 0 ≤ a ∧ a ≤ 9) (hb : 0 ≤ b ∧ b ≤ 9) :
    C (n + 2) 1 [boardD m ts rs, standD ms a b w] = .ok (.bl (decide ((ms.length : Int) = m))) := by
  rw [c1]
  have e1 : C (n + 1) 0 [.int (whoI w), .int 0, .int 1] = .ok (.bl true) := by rw [c_wholeI]; cases w <;> rfl
  have e2 : C (n + 1) 0 [.int a, .int 0, .int 9] = .ok (.bl true) := by rw [c_wholeI]; simp [ha]
  have e3 : C (n + 1) 0 [.int b, .int 0, .int 9] = .ok (.bl true) := by rw [c_wholeI]; simp [hb]
  have i1 : isT .tup (standD ms a b w) = .ok true := rfl
  have i2 : isT .tup (.tup (mensD ms)) = .ok true := rfl
  have i3 : isT .tup (.tup [.int a, .int b]) = .ok true := rfl
  have l1 : blt .len [standD ms a b w] = .ok (.int 3) := rfl
  have l2 : blt .len [.tup (mensD ms)] = .ok (.int (ms.length : Nat)) := by
    show R.ok (D.int ((mensD ms).length : Nat)) = _
    rw [mens_len]
  have s1 : subD (standD ms a b w) (.int 2) = .ok (.int (whoI w)) := rfl
  have k1 : compL (fun d => (((R.ok (D.bl (isNon d))).bind fun d_1 => (truth d_1).bind fun t => if t = false then C (n + 1) 0 [d, .int 0, .int 1] else R.ok d_1).bind fun x => R.ok (some x)).noexc) (mensD ms) = .ok (ms.map fun _ => .bl true) := by
    unfold mensD
    exact compL_map fun o _ => by rw [c_man]; rfl
  have k2 : blt .all [.lst (ms.map fun _ => .bl true)] = .ok (.bl true) := by
    rw [b_allM (p := fun _ => true)]; simp
  have st : setTS (.tup [2, 3, 4]) (standD ms a b w) = setTS (.tup [2, 3, 4]) (.tup [.tup (mensD ms), .tup [.int a, .int b], .int (whoI w)]) := rfl
  by_cases h : (ms.length : Int) = m
  · simp [d1, i1, l1, s1, e1, st, i2, l2, sub_many, h, i3, e2, e3]
    simp at k1
    simp [k1, k2, e2, e3]
  · simp [d1, i1, l1, s1, e1, st, i2, l2, sub_many, h]
theorem lit_sp : D.str " " = strD [32] := rfl
theorem lit_e : D.str "" = strD [] := rfl
theorem join_signs {xs : List Nat} (h : xs.length ≤ 1000) : meth .join (strD []) [.lst (xs.map fun c => strD [c])] = .ok (strD xs) := by
  have e1 : (xs.map fun c => strD [c]) = (xs.map fun c => mkS [c]).map D.str := by rw [List.map_map]; rfl
  have e2 : strs? ((xs.map fun c => mkS [c]).map D.str) = some (xs.map fun c => mkS [c]) := by
    generalize (xs.map fun c => mkS [c]) = ys
    induction ys with
    | nil => rfl
    | cons y ys ih => simp [strs?, ih]
  have e3 : ((xs.map fun c => mkS [c]).map fun z : PySem.Str => z.length).sum = xs.length := by
    rw [List.map_map]
    clear h e1 e2
    induction xs with
    | nil => rfl
    | cons x xs ih =>
      rw [List.map_cons, List.sum_cons, ih, List.length_cons]
      show (mkS [x]).length + _ = _
      rw [mkS_len]; simp; omega
  have e4 : PySem.Str.join (mkS []) (xs.map fun c => mkS [c]) = mkS xs := by
    refine TL.ext_tl ?_
    rw [TL.tl_join, List.map_map]
    show TL.joinL [] (xs.map fun c => [c]) = xs
    clear h e1 e2 e3
    induction xs with
    | nil => rfl
    | cons x xs ih =>
      cases xs with
      | nil => rfl
      | cons y ys =>
        show [x] ++ ([] ++ TL.joinL [] ((y :: ys).map fun c => [c])) = _
        rw [ih]; rfl
  rw [e1]
  show (match strs? ((xs.map fun c => mkS [c]).map D.str) with
    | some ys => chk (decide ((ys.map fun z : PySem.Str => z.length).sum + ys.length * (mkS []).length ≤ LIM)) (R.ok (D.str (PySem.Str.join (mkS []) ys)))
    | none => .bad) = _
  rw [e2]
  show chk (decide (((xs.map fun c => mkS [c]).map fun z : PySem.Str => z.length).sum + (xs.map fun c => mkS [c]).length * (mkS []).length ≤ LIM)) (R.ok (D.str (PySem.Str.join (mkS []) (xs.map fun c => mkS [c])))) = _
  rw [e3, e4, decide_eq_true (by rw [mkS_len]; unfold LIM; simp; omega)]; rfl
theorem c_written (n : Nat) (s : Sta) (h24 : s.ms.length ≤ 24) (ha : 0 ≤ s.a ∧ s.a ≤ 9) (hb : 0 ≤ s.b ∧ s.b ≤ 9) : C (n + 1) 18 [s.d] = .ok (strD (wrL s)) := by
  obtain ⟨ms, a, b, w⟩ := s
  replace h24 : ms.length ≤ 24 := h24
  rw [c18]
  have k1 : compL (fun d => ((subD (.tab tabS) d).bind fun x => R.ok (some x)).noexc) (mensD ms) = .ok ((ms.map sgOf).map fun c => strD [c]) := by
    unfold mensD
    rw [compL_map (g := fun o => strD [sgOf o]) fun o _ => by rw [sub_S]; rfl, List.map_map]; rfl
  have j1 := join_signs (xs := ms.map sgOf) (by rw [List.length_map]; omega)
  have s1 : blt .str [.int a] = .ok (strD (dec a)) := str_dec ⟨ha.1, by have : a ≤ 9 := ha.2; omega⟩
  have s2 : blt .str [.int b] = .ok (strD (dec b)) := str_dec ⟨hb.1, by have : b ≤ 9 := hb.2; omega⟩
  have z1 : (dec a).length ≤ 2 := by unfold dec; split <;> simp
  have z2 : (dec b).length ≤ 2 := by unfold dec; split <;> simp
  have st : setTS (.tup [1, 2, 3]) (Sta.d ⟨ms, a, b, w⟩) = setTS (.tup [1, 2, 3]) (.tup [.tup (mensD ms), .tup [.int a, .int b], .int (whoI w)]) := rfl
  have q1 : subD (.tup [.int a, .int b]) (.int 0) = .ok (.int a) := rfl
  have q2 : subD (.tup [.int a, .int b]) (.int 1) = .ok (.int b) := rfl
  have q3 : subD (.tab tabS) (.int (whoI w)) = .ok (strD [sgOf (some w)]) := sub_S (some w)
  have gl := gl_S n
  have rj : recv .join (strD []) = true := rfl
  have hw : wrL ⟨ms, a, b, w⟩ = ((((((ms.map sgOf) ++ [32]) ++ dec a) ++ [32]) ++ dec b) ++ [32]) ++ [sgOf (some w)] := by unfold wrL; simp
  rw [hw]
  have hr : (ms.map sgOf).length ≤ 24 := by rw [List.length_map]; omega
  generalize ms.map sgOf = R at *
  generalize dec a = A at *
  generalize dec b = B at *
  have a1 := add_strD (l := R) (k := [32]) (by unfold LIM; simp; omega)
  have a2 := add_strD (l := R ++ [32]) (k := A) (by unfold LIM; simp; omega)
  have a3 := add_strD (l := R ++ [32] ++ A) (k := [32]) (by unfold LIM; simp; omega)
  have a4 := add_strD (l := R ++ [32] ++ A ++ [32]) (k := B) (by unfold LIM; simp; omega)
  have a5 := add_strD (l := R ++ [32] ++ A ++ [32] ++ B) (k := [32]) (by unfold LIM; simp; omega)
  have a6 := add_strD (l := R ++ [32] ++ A ++ [32] ++ B ++ [32]) (k := [sgOf (some w)]) (by unfold LIM; simp; omega)
  simp [d18, st, gl, k1, lit_e, lit_sp, rj, j1, s1, s2, q1, q2, q3, a1, a2, a3, a4, a5, a6, -List.append_assoc]

end K16

namespace K16
open Ev
theorem k_digits (w : List Nat) (h : w.length ≤ 1000) : ((cmpop .eq (.int (w.length : Nat)) (.int 1)).bind fun d => (truth d).bind fun t => if t = true then cmpop .inn (strD w) (.str "0123456789") else R.ok d) = .ok (.bl (dig w).isSome) := by
  match w with
  | [] => rfl
  | [c] =>
    have e := in_dg c
    rw [q_eqI]
    have e1 : decide ((([c].length : Nat) : Int) = 1) = true := rfl
    rw [e1, R.ok_bind, t_bl, R.ok_bind, if_pos rfl, e]
    cases hc : dg c <;> simp [dig, hc]
  | a :: b :: r =>
    rw [q_eqI]
    have hl : ¬ (((a :: b :: r).length : Nat) : Int) = 1 := by simp; omega
    rw [decide_eq_false hl]; rfl
theorem isSome_get {o : Option Int} (h : o.isSome = true) : ∃ i, o = some i := Option.isSome_iff_exists.mp h
theorem digits_int {w : List Nat} {i : Int} (h : dig w = some i) : blt .int [strD w] = .ok (.int i) := by
  unfold dig at h
  split at h
  · split at h
    · rename_i hc
      cases h
      exact int_1 hc
    · cases h
  · cases h
def exR : Option Sta → R D
  | some s => .ok s.d
  | none => .exc 1
theorem c_read (n : Nat) {m : Int} (ts rs : List (List Int)) {l : List Nat} (hk : okL l = true) (hl : l.length ≤ 1000) : C (n + 3) 19 [boardD m ts rs, strD l] = exR (readP m l) := by
  rw [c19]
  have rj : recv .split (strD l) = true := rfl
  have hsp := split_strD (l := l) (by unfold LIM; omega)
  have hln := fun w hw => spl_len (l := l) (w := w) hw
  have hok := spl_ok l [] hk rfl
  have hlen : blt .len [.lst ((TL.spl [32] 0 [] l).map strD)] = .ok (.int ((TL.spl [32] 0 [] l).length : Nat)) := by
    show R.ok (D.int (((TL.spl [32] 0 [] l).map strD).length : Nat)) = _
    rw [List.length_map]
  have gl := gl_M (n + 2)
  by_cases h4 : (TL.spl [32] 0 [] l).length = 4
  · unfold readP
    generalize TL.spl [32] 0 [] l = ws at *
    match ws, h4 with
    | [w0, w1, w2, w3], _ =>
      have l0 := hln w0 (by simp)
      have l1 := hln w1 (by simp)
      have l2 := hln w2 (by simp)
      have k3 := hok w3 (by simp)
      clear hln hok
      have el0 := elems_strD (l := w0) (by unfold LIM; omega)
      have kk1 : compL (fun d => ((cmpop .inn d (.tab tabM)).bind fun x => R.ok (some x)).noexc) (w0.map fun c => strD [c]) = .ok (w0.map fun c => .bl (isSg c)) :=
        compL_map fun c _ => by rw [in_M]; rfl
      have q3 : cmpop .nin (strD w3) (.tup [.str "x", .str "o"]) = .ok (.bl (!(decide (w3 = [120]) || decide (w3 = [111])))) := by
        show (chk (shape (strD w3) && shape (.tup [.str "x", .str "o"])) (.ok ([D.str "x", D.str "o"].any fun z => eqv z (strD w3)))).bind (fun k => R.ok (D.bl (!k))) = _
        have e1 : shape (strD w3) = true := shap_strD 60 k3
        have e2 : shape (.tup [.str "x", .str "o"]) = true := by decide +kernel
        have e3 := eqv_str [120] w3
        have e4 := eqv_str [111] w3
        rw [e1, e2, lit_x, lit_o]
        simp [e3, e4, eq_comm]
      have sl : slcD (some 1) (some 3) (.lst [strD w0, strD w1, strD w2, strD w3]) = .ok (.lst [strD w1, strD w2]) := rfl
      have s0 : subD (.lst [strD w0, strD w1, strD w2, strD w3]) (.int 0) = .ok (strD w0) := rfl
      have s1 : subD (.lst [strD w0, strD w1, strD w2, strD w3]) (.int 1) = .ok (strD w1) := rfl
      have s2 : subD (.lst [strD w0, strD w1, strD w2, strD w3]) (.int 2) = .ok (strD w2) := rfl
      have s3 : subD (.lst [strD w0, strD w1, strD w2, strD w3]) (.int 3) = .ok (strD w3) := rfl
      have g1 := k_digits w1 (by omega)
      have g2 := k_digits w2 (by omega)
      have n1 := len_strD (l := w1) (by unfold LIM; omega)
      have n2 := len_strD (l := w2) (by unfold LIM; omega)
      have o1 : optI [D.int 1] = .ok (some 1) := rfl
      have o3 : optI [D.int 3] = .ok (some 3) := rfl
      have kk2 : compL (fun d => ((((blt .len [d]).bind fun x => cmpop .eq x (.int 1)).bind fun d_1 => (truth d_1).bind fun t => if t = true then cmpop .inn d (.str "0123456789") else R.ok d_1).bind fun x => R.ok (some x)).noexc) [strD w1, strD w2] = .ok [.bl (dig w1).isSome, .bl (dig w2).isSome] := by
        rw [k_cons, k_cons, k_nil, n1, n2]
        simp only [R.ok_bind]
        rw [g1, g2]; rfl
      generalize hW : [strD w1, strD w2] = W at sl kk2
      show _ = exR (if (w0.all isSg && (decide (w3 = [120]) || decide (w3 = [111])) && ((dig w1).isSome && (dig w2).isSome) && decide ((w0.length : Int) = m)) = true then some ⟨w0.map manS, (dig w1).getD 0, (dig w2).getD 0, decide (w3 = [111])⟩ else none)
      by_cases a1 : w0.all isSg = true
      · by_cases a2 : (decide (w3 = [120]) || decide (w3 = [111])) = true
        · by_cases a3 : (dig w1).isSome = true
          · by_cases a4 : (dig w2).isSome = true
            · obtain ⟨i1, hi1⟩ := isSome_get a3
              obtain ⟨i2, hi2⟩ := isSome_get a4
              obtain ⟨r1, r1', _⟩ := dig_rng hi1
              obtain ⟨r2, r2', _⟩ := dig_rng hi2
              have t1 := digits_int hi1
              have t2 := digits_int hi2
              have kk3 : compL (fun d => ((subD (.tab tabM) d).bind fun x => R.ok (some x)).noexc) (w0.map fun c => strD [c]) = .ok (mensD (w0.map manS)) := by
                rw [compL_map (g := fun c => manD (manS c)) fun c hc => by rw [sub_M (List.all_eq_true.mp a1 c hc)]; rfl]
                unfold mensD
                rw [List.map_map]; rfl
              have u3 : subD (.tab tabM) (strD w3) = .ok (.int (whoI (decide (w3 = [111])))) := by
                simp only [Bool.or_eq_true, decide_eq_true_eq] at a2
                rcases a2 with rfl | rfl <;> rfl
              have is := c_isstand n m i1 i2 ts rs (w0.map manS) (decide (w3 = [111])) ⟨r1, r1'⟩ ⟨r2, r2'⟩
              have es : D.tup [.tup (mensD (w0.map manS)), .tup [.int i1, .int i2], .int (whoI (decide (w3 = [111])))] = standD (w0.map manS) i1 i2 (decide (w3 = [111])) := rfl
              rw [List.length_map] at is
              rw [hi1, hi2, Option.isSome_some, Option.isSome_some] at kk2
              rw [a1, a2, hi1, hi2]
              generalize decide (w3 = [111]) = w at *
              generalize hS : standD (w0.map manS) i1 i2 w = S at *
              have eS : Sta.d ⟨w0.map manS, i1, i2, w⟩ = S := hS
              by_cases h5 : (w0.length : Int) = m
              · rw [if_pos (by simp [h5])]
                rw [h5] at is
                simp [d19, rj, lit_sp, hsp, hlen, gl, s0, s3, el0, kk1, a1, q3, a2, o1, o3, sl, kk2, kk3, s1, s2, t1, t2, u3, es, is, exR, eS]
              · rw [if_neg (by simp [h5])]
                simp [d19, rj, lit_sp, hsp, hlen, gl, s0, s3, el0, kk1, a1, q3, a2, o1, o3, sl, kk2, kk3, s1, s2, t1, t2, u3, es, is, exR, h5]
            · obtain ⟨i1, hi1⟩ := isSome_get a3
              have b4 : (dig w2).isSome = false := by simpa using a4
              rw [hi1, b4, Option.isSome_some] at kk2
              rw [if_neg (by simp [b4])]
              simp [d19, rj, lit_sp, hsp, hlen, gl, s0, s3, el0, kk1, a1, q3, a2, o1, o3, sl, kk2]
              rfl
          · have b3 : (dig w1).isSome = false := by simpa using a3
            rw [b3] at kk2
            rw [if_neg (by simp [b3])]
            simp [d19, rj, lit_sp, hsp, hlen, gl, s0, s3, el0, kk1, a1, q3, a2, o1, o3, sl, kk2]
            rfl
        · have b2 : (decide (w3 = [120]) || decide (w3 = [111])) = false := by simpa using a2
          rw [if_neg (by simp [b2])]
          rw [b2] at q3
          simp [d19, rj, lit_sp, hsp, hlen, gl, s0, s3, el0, kk1, a1, q3]
          rfl
      · rw [if_neg (by simp [a1])]
        simp [d19, rj, lit_sp, hsp, hlen, gl, s0, el0, kk1, a1]
        rfl
  · have hn : readP m l = none := by
      unfold readP
      split
      · rename_i hs
        rw [hs] at h4
        exact absurd rfl h4
      · rfl
    have h4' : ¬ ((TL.spl [32] 0 [] l).length : Int) = 4 := by omega
    rw [hn]
    simp [d19, rj, lit_sp, hsp, hlen, h4']
    rfl
theorem lit_lay : D.str "lay" = strD LAY := rfl
theorem lit_lead : D.str "lead" = strD LEAD := rfl
theorem lit_lay_ : D.str "lay " = strD (LAY ++ [32]) := rfl
theorem lit_lead_ : D.str "lead " = strD (LEAD ++ [32]) := rfl
theorem lit_take : D.str " take " = strD TAKE := rfl
theorem c_told (n : Nat) {b g t : Int} (hb : -1 ≤ b ∧ b ≤ 23) (hg : 0 ≤ g ∧ g ≤ 23) (ht : -1 ≤ t ∧ t ≤ 23) : C (n + 1) 20 [intT [b, g, t]] = .ok (strD (toldL b g t)) := by
  rw [c20]
  have st : setTS (.tup [1, 2, 3]) (intT [b, g, t]) = setTS (.tup [1, 2, 3]) (.tup [.int b, .int g, .int t]) := rfl
  have zg := dec_len g
  have zb := dec_len b
  have zt := dec_len t
  have sg : blt .str [.int g] = .ok (strD (dec g)) := str_dec (by omega)
  have a1 : binop .add (strD (LAY ++ [32])) (strD (dec g)) = .ok (strD (LAY ++ [32] ++ dec g)) := add_strD (by unfold LIM LAY; simp; omega)
  by_cases h1 : 0 ≤ b
  · have sb : blt .str [.int b] = .ok (strD (dec b)) := str_dec (by omega)
    have hgo : goL b g = LEAD ++ [32] ++ dec b ++ [32] ++ dec g := by unfold goL; rw [if_pos h1]; simp
    have a2 : binop .add (strD (LEAD ++ [32])) (strD (dec b)) = .ok (strD (LEAD ++ [32] ++ dec b)) := add_strD (by unfold LIM LEAD; simp; omega)
    have a3 : binop .add (strD (LEAD ++ [32] ++ dec b)) (strD [32]) = .ok (strD (LEAD ++ [32] ++ dec b ++ [32])) := add_strD (by unfold LIM LEAD; simp; omega)
    have a4 : binop .add (strD (LEAD ++ [32] ++ dec b ++ [32])) (strD (dec g)) = .ok (strD (LEAD ++ [32] ++ dec b ++ [32] ++ dec g)) := add_strD (by unfold LIM LEAD; simp; omega)
    have hgl : (LEAD ++ [32] ++ dec b ++ [32] ++ dec g).length ≤ 20 := by unfold LEAD; simp; omega
    rw [← hgo] at a4 hgl
    unfold toldL
    generalize goL b g = G at *
    by_cases h2 : 0 ≤ t
    · have stt : blt .str [.int t] = .ok (strD (dec t)) := str_dec (by omega)
      have a5 : binop .add (strD G) (strD TAKE) = .ok (strD (G ++ TAKE)) := add_strD (by unfold LIM TAKE; simp; omega)
      have a6 : binop .add (strD (G ++ TAKE)) (strD (dec t)) = .ok (strD (G ++ TAKE ++ dec t)) := add_strD (by unfold LIM TAKE; simp; omega)
      rw [List.append_assoc] at a6
      rw [if_pos h2]
      generalize hA : G ++ TAKE = A at *
      generalize hB : G ++ (TAKE ++ dec t) = B at *
      simp [d20, st, lit_lay_, lit_lead_, lit_sp, lit_take, sg, sb, stt, a1, h1, a2, a3, a4, h2, a5, a6, -List.append_assoc]
    · rw [if_neg h2]
      simp [d20, st, lit_lay_, lit_lead_, lit_sp, lit_take, sg, sb, a1, h1, a2, a3, a4, h2, -List.append_assoc]
  · have hgo : goL b g = LAY ++ [32] ++ dec g := by unfold goL; rw [if_neg h1]; simp
    have hgl : (LAY ++ [32] ++ dec g).length ≤ 20 := by unfold LAY; simp; omega
    rw [← hgo] at a1 hgl
    unfold toldL
    generalize goL b g = G at *
    by_cases h2 : 0 ≤ t
    · have stt : blt .str [.int t] = .ok (strD (dec t)) := str_dec (by omega)
      have a5 : binop .add (strD G) (strD TAKE) = .ok (strD (G ++ TAKE)) := add_strD (by unfold LIM TAKE; simp; omega)
      have a6 : binop .add (strD (G ++ TAKE)) (strD (dec t)) = .ok (strD (G ++ TAKE ++ dec t)) := add_strD (by unfold LIM TAKE; simp; omega)
      rw [List.append_assoc] at a6
      rw [if_pos h2]
      generalize hA : G ++ TAKE = A at *
      generalize hB : G ++ (TAKE ++ dec t) = B at *
      simp [d20, st, lit_lay_, lit_lead_, lit_sp, lit_take, sg, stt, a1, h1, h2, a5, a6, -List.append_assoc]
    · rw [if_neg h2]
      simp [d20, st, lit_lay_, lit_lead_, lit_sp, lit_take, sg, a1, h1, h2, -List.append_assoc]
def exI : Option Int → R D
  | some i => .ok (.int i)
  | none => .exc 1
theorem c_point (n : Nat) {w : List Nat} (hk : okL w = true) (hl : w.length ≤ 1000) : C (n + 1) 21 [strD w] = exI (pointP w) := by
  rw [c21]
  have n1 := len_strD (l := w) (by unfold LIM; omega)
  have el := elems_strD (l := w) (by unfold LIM; omega)
  have kk : compL (fun d => ((cmpop .inn d (.str "0123456789")).bind fun x => R.ok (some x)).noexc) (w.map fun c => strD [c]) = .ok (w.map fun c => .bl (dg c)) :=
    compL_map fun c _ => by rw [in_dg]; rfl
  match w with
  | [] => simp [d21, n1]; rfl
  | [c] =>
    by_cases hc : dg c = true
    · have hi := int_1 hc
      have hp : pointP [c] = some ((c : Int) - 48) := by simp [pointP, hc]
      obtain ⟨h1, h2, h3⟩ := point_is hp
      have hs : blt .str [.int ((c : Int) - 48)] = .ok (strD [c]) := by rw [h3]; exact str_dec (by omega)
      have hq := q_neStr hk hk
      rw [hp]
      have iw := in_dg c
      rw [hc] at iw
      generalize ((c : Int) - 48) = i at *
      generalize hw : strD [c] = W at *
      have h4 : ¬ (23 : Int) < i := by omega
      simp at kk
      simp [d21, n1, el, hw, kk, iw, hc, hi, hs, hq, h4]
      rfl
    · have hp : pointP [c] = none := by simp [pointP, hc]
      rw [hp]
      simp at kk
      simp [d21, n1, el, kk, hc]
      rfl
  | [c, d] =>
    by_cases hc : dg c = true
    · by_cases hd : dg d = true
      · have hi := int_2 hc hd
        have hr : 0 ≤ 10 * ((c : Int) - 48) + ((d : Int) - 48) ∧ 10 * ((c : Int) - 48) + ((d : Int) - 48) < 100 := by
          simp only [dg, Bool.and_eq_true, decide_eq_true_eq] at hc hd
          omega
        have hs := str_dec hr
        have hok : okL (dec (10 * ((c : Int) - 48) + ((d : Int) - 48))) = true := dec_ok (by omega)
        have hq := q_neStr hok hk
        by_cases h0 : c = 48
        · have hne : ¬ dec (10 * ((c : Int) - 48) + ((d : Int) - 48)) = [c, d] := by
            simp only [dg, Bool.and_eq_true, decide_eq_true_eq] at hc hd
            unfold dec
            rw [if_pos (by omega)]
            simp
          have hp : pointP [c, d] = none := by simp [pointP, h0]
          rw [hp]
          rw [decide_eq_false hne] at hq
          generalize (10 * ((c : Int) - 48) + ((d : Int) - 48)) = i at *
          generalize hw : strD [c, d] = W at *
          simp at kk
          simp [d21, n1, el, hw, kk, hc, hd, hi, hs, hq]
          rfl
        · have hne : dec (10 * ((c : Int) - 48) + ((d : Int) - 48)) = [c, d] := by
            simp only [dg, Bool.and_eq_true, decide_eq_true_eq] at hc hd
            unfold dec
            rw [if_neg (by omega)]
            have e1 : 48 + (10 * ((c : Int) - 48) + ((d : Int) - 48)).toNat / 10 = c := by omega
            have e2 : 48 + (10 * ((c : Int) - 48) + ((d : Int) - 48)).toNat % 10 = d := by omega
            rw [e1, e2]
          rw [hne] at hs hq
          rw [decide_eq_true rfl] at hq
          by_cases h3 : 10 * ((c : Int) - 48) + ((d : Int) - 48) ≤ 23
          · have hp : pointP [c, d] = some (10 * ((c : Int) - 48) + ((d : Int) - 48)) := by simp [pointP, hc, hd, h0, h3]
            rw [hp]
            generalize (10 * ((c : Int) - 48) + ((d : Int) - 48)) = i at *
            generalize hw : strD [c, d] = W at *
            have h4 : ¬ (23 : Int) < i := by omega
            simp at kk
            simp [d21, n1, el, hw, kk, hc, hd, hi, hs, hq, h4]
            rfl
          · have hp : pointP [c, d] = none := by simp [pointP, h3]
            rw [hp]
            generalize (10 * ((c : Int) - 48) + ((d : Int) - 48)) = i at *
            generalize hw : strD [c, d] = W at *
            have h4 : (23 : Int) < i := by omega
            simp at kk
            simp [d21, n1, el, hw, kk, hc, hd, hi, hs, hq, h4]
            rfl
      · have hp : pointP [c, d] = none := by simp [pointP, hd]
        rw [hp]
        simp at kk
        simp [d21, n1, el, kk, hd]
        rfl
    · have hp : pointP [c, d] = none := by simp [pointP, hc]
      rw [hp]
      simp at kk
      simp [d21, n1, el, kk, hc]
      rfl
  | a :: b :: c :: r =>
    have hp : pointP (a :: b :: c :: r) = none := rfl
    rw [hp]
    have h2 : ¬ ((((a :: b :: c :: r).length : Nat) : Int) ≤ 2) := by simp; omega
    have h1 : (1 : Int) ≤ (((a :: b :: c :: r).length : Nat) : Int) := by simp; omega
    generalize (((a :: b :: c :: r).length : Nat) : Int) = L at *
    generalize hw : strD (a :: b :: c :: r) = W at *
    simp [d21, n1, h1, h2]
    rfl
def exM : Option (List Int) → R D
  | some mv => .ok (intT mv)
  | none => .exc 1
theorem spl_words {l : List Nat} {w : List Nat} (hk : okL l = true) (hl : l.length ≤ 1000) (h : w ∈ TL.spl [32] 0 [] l) : okL w = true ∧ w.length ≤ 1000 :=
  ⟨spl_ok l [] hk rfl w h, Nat.le_trans (spl_len h) hl⟩
def bH : SL := tailS 3 d22.body
/-- behind what is taken -/
theorem heard_rest (n : Nat) (T : D) {l : List Nat} (t : Int) (X Y : D) (hk : okL l = true) (hl : l.length ≤ 1000) : (execL (cl (n + 1)) bH [.val T, .val (strD l), .val X, .val Y, .val (.int t), .emp]).bind outR = exM (wordsP t (TL.spl [32] 0 [] l)) := by
  have rj : recv .split (strD l) = true := rfl
  have hsp := split_strD (l := l) (by unfold LIM; omega)
  have hw := fun w h => spl_words (w := w) hk hl h
  have hne := spl_ne [32] l 0 []
  generalize TL.spl [32] 0 [] l = ws at *
  have hlen : blt .len [.lst (ws.map strD)] = .ok (.int (ws.length : Nat)) := by
    show R.ok (D.int ((ws.map strD).length : Nat)) = _
    rw [List.length_map]
  have ll : okL LAY = true := rfl
  have ld : okL LEAD = true := rfl
  match ws, hne with
  | w0 :: wr, _ =>
    have k0 := (hw w0 (by simp)).1
    have s0 : subD (.lst ((w0 :: wr).map strD)) (.int 0) = .ok (strD w0) := by
      show orBad (atI (strD w0 :: wr.map strD) ((0 : Nat) : Int)) = _
      rw [atI_nat (by simp)]; rfl
    have q1 := q_eqStr k0 ll
    have q2 := q_neStr k0 ld
    match wr with
    | [] =>
      have e : wordsP t [w0] = none := rfl
      rw [e]
      have h2 : ¬ ((([w0].length : Nat) : Int) = 2) := by simp
      have h3 : ¬ ((([w0].length : Nat) : Int) = 3) := by simp
      generalize ((([w0].length : Nat) : Int)) = L at *
      generalize hW : [w0].map strD = W at *
      by_cases h : w0 = LEAD
      · rw [decide_eq_true h] at q2
        by_cases h' : w0 = LAY
        · rw [decide_eq_true h'] at q1
          simp [bH, tailS, d22, rj, lit_sp, hsp, s0, lit_lay, lit_lead, q1, q2, hlen, h2, h3]
          rfl
        · rw [decide_eq_false h'] at q1
          simp [bH, tailS, d22, rj, lit_sp, hsp, s0, lit_lay, lit_lead, q1, q2, hlen, h2, h3]
          rfl
      · rw [decide_eq_false h] at q2
        by_cases h' : w0 = LAY
        · rw [decide_eq_true h'] at q1
          simp [bH, tailS, d22, rj, lit_sp, hsp, s0, lit_lay, lit_lead, q1, q2, hlen, h2, h3]
          rfl
        · rw [decide_eq_false h'] at q1
          simp [bH, tailS, d22, rj, lit_sp, hsp, s0, lit_lay, lit_lead, q1, q2, hlen, h2, h3]
          rfl
    | [w1] =>
      obtain ⟨k1, l1⟩ := hw w1 (by simp)
      have p1 := c_point n k1 l1
      have s1 : subD (.lst ([w0, w1].map strD)) (.int 1) = .ok (strD w1) := rfl
      have e : wordsP t [w0, w1] = if w0 = LAY then (pointP w1).map fun g => [-1, g, t] else none := rfl
      rw [e]
      generalize hW : [w0, w1].map strD = W at *
      by_cases h : w0 = LAY
      · rw [if_pos h]
        rw [decide_eq_true h] at q1
        cases hp : pointP w1 with
        | none =>
          rw [hp] at p1
          replace p1 : C (n + 1) 21 [strD w1] = .exc 1 := p1
          simp [bH, tailS, d22, rj, lit_sp, hsp, s0, lit_lay, lit_lead, q1, hlen, s1, p1]
          rfl
        | some g =>
          rw [hp] at p1
          replace p1 : C (n + 1) 21 [strD w1] = .ok (.int g) := p1
          simp [bH, tailS, d22, rj, lit_sp, hsp, s0, lit_lay, lit_lead, q1, hlen, s1, p1]
          rfl
      · rw [if_neg h]
        rw [decide_eq_false h] at q1
        by_cases h2 : w0 = LEAD
        · rw [decide_eq_true h2] at q2
          simp [bH, tailS, d22, rj, lit_sp, hsp, s0, lit_lay, lit_lead, q1, q2, hlen]
          rfl
        · rw [decide_eq_false h2] at q2
          simp [bH, tailS, d22, rj, lit_sp, hsp, s0, lit_lay, lit_lead, q1, q2, hlen]
          rfl
    | [w1, w2] =>
      obtain ⟨k1, l1⟩ := hw w1 (by simp)
      obtain ⟨k2, l2⟩ := hw w2 (by simp)
      have p1 := c_point n k1 l1
      have p2 := c_point n k2 l2
      have s1 : subD (.lst ([w0, w1, w2].map strD)) (.int 1) = .ok (strD w1) := rfl
      have s2 : subD (.lst ([w0, w1, w2].map strD)) (.int 2) = .ok (strD w2) := rfl
      have e : wordsP t [w0, w1, w2] = if w0 = LEAD then (pointP w1).bind fun b => (pointP w2).map fun g => [b, g, t] else none := rfl
      rw [e]
      generalize hW : [w0, w1, w2].map strD = W at *
      by_cases h : w0 = LEAD
      · rw [if_pos h]
        have h' : ¬ w0 = LAY := by rw [h]; decide
        rw [decide_eq_true h] at q2
        rw [decide_eq_false h'] at q1
        cases hp : pointP w1 with
        | none =>
          rw [hp] at p1
          replace p1 : C (n + 1) 21 [strD w1] = .exc 1 := p1
          simp [bH, tailS, d22, rj, lit_sp, hsp, s0, lit_lay, lit_lead, q1, q2, hlen, s1, p1]
          rfl
        | some b =>
          rw [hp] at p1
          replace p1 : C (n + 1) 21 [strD w1] = .ok (.int b) := p1
          cases hq : pointP w2 with
          | none =>
            rw [hq] at p2
            replace p2 : C (n + 1) 21 [strD w2] = .exc 1 := p2
            simp [bH, tailS, d22, rj, lit_sp, hsp, s0, lit_lay, lit_lead, q1, q2, hlen, s1, s2, p1, p2]
            rfl
          | some g =>
            rw [hq] at p2
            replace p2 : C (n + 1) 21 [strD w2] = .ok (.int g) := p2
            simp [bH, tailS, d22, rj, lit_sp, hsp, s0, lit_lay, lit_lead, q1, q2, hlen, s1, s2, p1, p2]
            rfl
      · rw [if_neg h]
        rw [decide_eq_false h] at q2
        by_cases h2 : w0 = LAY
        · rw [decide_eq_true h2] at q1
          simp [bH, tailS, d22, rj, lit_sp, hsp, s0, lit_lay, lit_lead, q1, q2, hlen]
          rfl
        · rw [decide_eq_false h2] at q1
          simp [bH, tailS, d22, rj, lit_sp, hsp, s0, lit_lay, lit_lead, q1, q2, hlen]
          rfl
    | w1 :: w2 :: w3 :: wr =>
      have e : wordsP t (w0 :: w1 :: w2 :: w3 :: wr) = none := rfl
      rw [e]
      have h2 : ¬ (((w0 :: w1 :: w2 :: w3 :: wr).length : Nat) : Int) = 2 := by simp; omega
      have h3 : ¬ (((w0 :: w1 :: w2 :: w3 :: wr).length : Nat) : Int) = 3 := by simp; omega
      generalize (((w0 :: w1 :: w2 :: w3 :: wr).length : Nat) : Int) = L at *
      generalize hW : (w0 :: w1 :: w2 :: w3 :: wr).map strD = W at *
      by_cases h : w0 = LEAD
      · rw [decide_eq_true h] at q2
        by_cases h' : w0 = LAY
        · rw [decide_eq_true h'] at q1
          simp [bH, tailS, d22, rj, lit_sp, hsp, s0, lit_lay, lit_lead, q1, q2, hlen, h2, h3]
          rfl
        · rw [decide_eq_false h'] at q1
          simp [bH, tailS, d22, rj, lit_sp, hsp, s0, lit_lay, lit_lead, q1, q2, hlen, h2, h3]
          rfl
      · rw [decide_eq_false h] at q2
        by_cases h' : w0 = LAY
        · rw [decide_eq_true h'] at q1
          simp [bH, tailS, d22, rj, lit_sp, hsp, s0, lit_lay, lit_lead, q1, q2, hlen, h2, h3]
          rfl
        · rw [decide_eq_false h'] at q1
          simp [bH, tailS, d22, rj, lit_sp, hsp, s0, lit_lay, lit_lead, q1, q2, hlen, h2, h3]
          rfl
theorem par_sub {l a b : List Nat} (h : TL.par TAKE [] l = some (a, b)) (hk : okL l = true) (hl : l.length ≤ 1000) : okL a = true ∧ a.length ≤ 1000 ∧ okL b = true ∧ b.length ≤ 1000 := by
  have e := par_back h
  rw [List.nil_append] at e
  rw [e] at hk hl
  rw [okL_app, okL_app, Bool.and_eq_true, Bool.and_eq_true] at hk
  simp only [List.length_append] at hl
  exact ⟨hk.1, by omega, hk.2.2, by omega⟩
theorem c_heard (n : Nat) {l : List Nat} (hk : okL l = true) (hl : l.length ≤ 1000) : C (n + 2) 22 [strD l] = exM (heardP l) := by
  rw [c22, exec_split _ 3]
  have rj : recv .part (strD l) = true := rfl
  have hpt : meth .part (strD l) [strD TAKE] = .ok (partD (mkS TAKE) (mkS l)) := by
    show chk (sepB (mkS TAKE) && decide ((mkS l).length ≤ LIM)) (R.ok (partD (mkS TAKE) (mkS l))) = _
    have e : sepB (mkS TAKE) = true := by decide +kernel
    rw [e, mkS_len, decide_eq_true (by unfold LIM; omega)]; rfl
  have ok0 : okL ([] : List Nat) = true := rfl
  have okT : okL TAKE = true := rfl
  cases hp : TL.par TAKE [] l with
  | none =>
    have e : aheadP l = (l, none) := by unfold aheadP; rw [hp]
    have ep : partD (mkS TAKE) (mkS l) = .tup [strD l, strD [], strD []] := by
      unfold partD
      have : TL.par (TL.tl (mkS TAKE)) [] (TL.tl (mkS l)) = none := hp
      rw [this]; rfl
    have q1 := q_neStr ok0 ok0
    rw [ep] at hpt
    have st : execL (cl (n + 1)) (takeS 3 d22.body) [.val (strD l), .emp, .emp, .emp, .emp, .emp] = .ok (.nx [.val (strD l), .val (strD l), .val (strD []), .val (strD []), .val (.int (-1)), .emp]) := by
      generalize strD l = W at *
      simp [takeS, d22, rj, lit_take, hpt, lit_e, q1, negD]
    rw [st]
    have := heard_rest n (strD l) (-1) (strD []) (strD []) hk hl
    unfold heardP
    rw [e]
    exact this
  | some ab =>
    obtain ⟨a, b⟩ := ab
    obtain ⟨ka, la, kb, lb⟩ := par_sub hp hk hl
    have e : aheadP l = (a, some b) := by unfold aheadP; rw [hp]
    have ep : partD (mkS TAKE) (mkS l) = .tup [strD a, strD TAKE, strD b] := by
      unfold partD
      have : TL.par (TL.tl (mkS TAKE)) [] (TL.tl (mkS l)) = some (a, b) := hp
      rw [this]; rfl
    have q1 := q_neStr okT ok0
    rw [decide_eq_false (by decide)] at q1
    rw [ep] at hpt
    have p1 := c_point n kb lb
    unfold heardP
    rw [e]
    show _ = exM ((pointP b).bind fun t => wordsP t (TL.spl [32] 0 [] a))
    cases hb : pointP b with
    | none =>
      rw [hb] at p1
      replace p1 : C (n + 1) 21 [strD b] = .exc 1 := p1
      have st : execL (cl (n + 1)) (takeS 3 d22.body) [.val (strD l), .emp, .emp, .emp, .emp, .emp] = .exc 1 := by
        generalize strD l = W at *
        simp [takeS, d22, rj, lit_take, hpt, lit_e, q1, negD, p1]
      rw [st]; rfl
    | some t =>
      rw [hb] at p1
      replace p1 : C (n + 1) 21 [strD b] = .ok (.int t) := p1
      have st : execL (cl (n + 1)) (takeS 3 d22.body) [.val (strD l), .emp, .emp, .emp, .emp, .emp] = .ok (.nx [.val (strD l), .val (strD a), .val (strD TAKE), .val (strD b), .val (.int t), .emp]) := by
        generalize strD l = W at *
        simp [takeS, d22, rj, lit_take, hpt, lit_e, q1, negD, p1]
      rw [st]
      exact heard_rest n (strD l) t (strD TAKE) (strD b) ka la

end K16

namespace K16
open Ev
theorem same_int (n : Nat) (i : Int) : C (n + 1) 31 [.int i, .int i] = .ok (.bl true) := by
  rw [c31]; simp [d31, isNon]
theorem same_tup (n : Nat) (ds : List D) (h : ∀ d ∈ ds, C n 31 [d, d] = .ok (.bl true)) : C (n + 1) 31 [.tup ds, .tup ds] = .ok (.bl true) := by
  rw [c31]
  have hc : compL (fun d => ((setT (.tup [2, 3]) d [some (.tup ds), some (.tup ds), none, none]).bind fun env' => (evalT (cl n) .nil env').bind fun k => if k then (eval (cl n) (.call 31 (.cons (.var 2) (.cons (.var 3) .nil))) env').bind fun x => .ok (some x) else .ok none).noexc) (zipL ds ds) = .ok ((zipL ds ds).map fun _ => .bl true) :=
    compL_some fun d hd => by
      unfold zipL at hd
      obtain ⟨p, hp, rfl⟩ := List.mem_map.mp hd
      have h1 : p.1 = p.2 := by
        obtain ⟨i, hi, e⟩ := List.getElem_of_mem hp
        rw [List.getElem_zip] at e
        rw [← e]
      have h2 := h p.1 (List.of_mem_zip hp).1
      rw [← h1]
      simp [h2]
  simp at hc
  have ha : blt .all [.lst ((zipL ds ds).map fun _ => .bl true)] = .ok (.bl true) := by
    rw [b_allM (p := fun _ => true)]; simp
  simp [d31, hc, ha]
theorem same_intT (n : Nat) (xs : List Int) : C (n + 2) 31 [intT xs, intT xs] = .ok (.bl true) :=
  same_tup (n + 1) _ fun d hd => by
    obtain ⟨i, _, rfl⟩ := List.mem_map.mp hd
    exact same_int n i
theorem same_tups (n : Nat) (xs : List (List Int)) : C (n + 3) 31 [tupsD xs, tupsD xs] = .ok (.bl true) :=
  same_tup (n + 2) _ fun d hd => by
    obtain ⟨i, _, rfl⟩ := List.mem_map.mp hd
    exact same_intT n i
theorem same_sm (n : Nat) : ∀ (k : Nat) (d : D), sm k d = true → C (n + k + 1) 31 [d, d] = .ok (.bl true)
  | k, .non, _ => by rw [c31]; simp [d31, isNon]
  | k, .int i, _ => same_int (n + k) i
  | k, .bl b, _ => by
    rw [c31]
    have e : cmpop .eq (.bl b) (.bl b) = .ok (.bl true) := by cases b <;> rfl
    simp [d31, isNon, e]
  | k, .str s, h => by
    rw [c31]
    have h' : PySem.PyData.strOk s = true := by cases k <;> simpa [sm] using h
    have e : cmpop .eq (.str s) (.str s) = .ok (.bl true) := by
      show chk (shape (.str s) && shape (.str s)) (R.ok (D.bl (eqv (.str s) (.str s)))) = _
      have h1 : shape (.str s) = true := by unfold shape; simp [shap, h']
      have h2 : eqv (.str s) (.str s) = true := by unfold eqv; simp [toPy, PySem.PyData.eqv]
      rw [h1, h2]; rfl
    simp [d31, isNon, e]
  | k + 1, .tup ds, h => same_tup (n + k + 1) ds fun d hd => same_sm n k d (sms_mem (by simpa [sm] using h) d hd)
  | 0, .tup ds, h => by simp [sm] at h
  | k, .lst _, h => by cases k <;> simp [sm] at h
  | k, .scr _, h => by cases k <;> simp [sm] at h
  | k, .dic _, h => by cases k <;> simp [sm] at h
  | k, .tab _, h => by cases k <;> simp [sm] at h
theorem same_stand (n : Nat) (ms : List (Option Bool)) (a b : Int) (w : Bool) : C (n + 3) 31 [standD ms a b w, standD ms a b w] = .ok (.bl true) := same_sm n 2 _ (sm_stand 0 ms a b w)
theorem g_lgrid : C 59 33 [] = .ok (boardD 9 t0 r0) := by kernel_rfl
theorem g_l1 : C 59 32 [.int 1] = .ok (boardD 8 t1 r1) := by kernel_rfl
theorem g_l2 : C 59 32 [.int 2] = .ok (boardD 16 t2 r2) := by kernel_rfl
theorem g_l3 : C 59 32 [.int 3] = .ok (boardD 24 t3 r3) := by kernel_rfl

end K16

namespace K16
open Ev
structure Bd (m : Int) (ts rs : List (List Int)) : Prop where
  g2 : Good 2 m ts
  g3 : Good 3 m rs
  m5 : 5 ≤ m
  m24 : m ≤ 24
  few : ∀ k, k < m.toNat → (turnK m ts rs k).length * m.toNat + 1000 < 4000000
  some : 0 < (turnsP m ts rs).length
def bK : SL := forB d42.body
theorem beg_run {m M : Int} {ts rs : List (List Int)} {w : List (List Int)} (v : Val ts rs (begS m M) w) : Runs ts rs (begS m M) w := v.runs
theorem mv_bnd {m M : Int} {ts rs : List (List Int)} (B : Bd m ts rs) {w : List (List Int)} (v : Val ts rs (begS m M) w) {mv : List Int} (hm : mv ∈ w) :
    ∃ x y z, mv = [x, y, z] ∧ (-1 ≤ x ∧ x < m) ∧ (0 ≤ y ∧ y < m) ∧ (-1 ≤ z ∧ z < m) := by
  have h0 : 0 ≤ m := by have := B.m5; omega
  obtain ⟨pre, h1⟩ := val_mem v hm
  obtain ⟨x, y, z, e, k⟩ := mvs_mem B.g2 (last_len (beg_len (M := M) h0)) h1
  refine ⟨x, y, z, e, ?_, k.g0, ?_⟩
  · rcases k.bb with h | h <;> omega
  · rcases k.tt with h | h <;> omega
/-- told, heard and turned -/
theorem mv_new {m M : Int} {ts rs : List (List Int)} (B : Bd m ts rs) {w : List (List Int)} (v : Val ts rs (begS m M) w) {σ : List Int} (h : IsTurn m ts rs σ) {mv : List Int} (hm : mv ∈ w) :
    ∃ l, C 59 20 [intT mv] = .ok (strD l) ∧ C 59 22 [strD l] = .ok (intT mv) ∧ C 59 27 [intT mv, intT σ] = .ok (intT (mv.map (tauP σ))) := by
  obtain ⟨x, y, z, rfl, hx, hy, hz⟩ := mv_bnd B v hm
  have m24 := B.m24
  have hs := h.len
  have hh := heard_told (b := x) (g := y) (t := z) (by omega) (by omega) (by omega)
  refine ⟨toldL x y z, c_told 58 (by omega) (by omega) (by omega), ?_, c_tmove 57 fun p hp => ?_⟩
  · have := c_heard 57 (l := toldL x y z) (told_ok (by omega) (by omega) (by omega)) (by have := told_len x y z; omega)
    rw [hh] at this
    exact this
  · simp only [List.mem_cons, List.not_mem_nil, or_false] at hp
    rcases hp with rfl | rfl | rfl <;> omega
/-- written and read -/
theorem sta_wr {m M : Int} {ts rs : List (List Int)} (B : Bd m ts rs) (hM : 0 ≤ M ∧ M ≤ 9) {w : List (List Int)} (v : Val ts rs (begS m M) w) {s : Sta} (hm : s ∈ stasOf (begS m M) w) :
    ∃ l, C 59 18 [s.d] = .ok (strD l) ∧ C 59 19 [boardD m ts rs, strD l] = .ok s.d ∧ C 59 31 [s.d, s.d] = .ok (.bl true) := by
  have h0 : 0 ≤ m := by have := B.m5; omega
  have m24 := B.m24
  have hl := stas_lens (beg_len (M := M) h0) s hm
  have bn := bnd_run B.g2 w (begS m M) (beg_len h0) (beg_run v) hM.1 hM.1 s hm
  have e1 : (begS m M).a = M := rfl
  have e2 : (begS m M).b = M := rfl
  rw [e1, e2] at bn
  have hw := read_wr (m := m) (s := s) hl (by omega) (by omega)
  refine ⟨wrL s, c_written 58 s (by omega) (by omega) (by omega), ?_, same_stand 56 s.ms s.a s.b s.w⟩
  have := c_read 56 ts rs (m := m) (l := wrL s) (wr_ok (by omega) (by omega)) (by have := wr_len (m := m) (s := s) hl m24; omega)
  rw [hw] at this
  exact this
theorem same_stas (n : Nat) (s0 : Sta) (w : List (List Int)) : C (n + 4) 31 [.tup (stasD s0 w), .tup (stasD s0 w)] = .ok (.bl true) :=
  same_sm n 3 _ (by
    show sms 2 (stasD s0 w) = true
    refine sms_of fun d hd => ?_
    unfold stasD at hd
    obtain ⟨s, _, rfl⟩ := List.mem_map.mp hd
    exact sm_stand 0 _ _ _ _)
theorem alike_back {m : Int} {ts rs : List (List Int)} {σ : List Int} {s : Sta} (B : Bd m ts rs) (h : IsTurn m ts rs σ) (hl : (s.ms.length : Int) = m) : alikeP m ts rs (s.turn σ) s = true := by
  have h0 : 0 ≤ m := by have := B.m5; omega
  unfold alikeP
  rw [List.any_eq_true]
  refine ⟨invL m σ, turn_mem B.g2 B.g3 h0 (inv_turn h B.g2 B.g3 h0), ?_⟩
  have e : ((s.turn σ).turn (invL m σ)).ms = s.ms := turn_back h B.g2 B.g3 h0 hl
  rw [e]; simp [Sta.turn]
/-- what stands once a game is drawn and its moves are turned -/
structure Dr (m : Int) (ts rs : List (List Int)) (M : Int) (w : List (List Int)) (σ : List Int) : Prop where
  M3 : 3 ≤ M ∧ M ≤ 5
  len : w.length ≤ 40
  val : Val ts rs (begS m M) w
  turn : IsTurn m ts rs σ
abbrev newT (σ : List Int) (w : List (List Int)) : List (List Int) := w.map (List.map (tauP σ))
theorem part1 (ns : List Int) (k : Nat) {m : Int} {ts rs : List (List Int)} (B : Bd m ts rs) : ∃ c M w σ, Dr m ts rs M w σ ∧
    execL (cl 59) (takeS 6 bK) [.val (.scr ns), .val (.int k), .val (boardD m ts rs), .emp, .emp, .emp, .emp, .emp, .emp, .emp, .emp, .emp, .emp, .emp, .emp, .emp, .emp] =
      .ok (.nx [.val (.scr ns), .val (.int k), .val (boardD m ts rs), .val c, .val (.int M), .val (.lst (stasD (begS m M) w)), .val (.lst (w.map intT)), .val (tupsD (turnsP m ts rs)), .val (intT σ), .val (.tup ((newT σ w).map intT)), .emp, .emp, .emp, .emp, .emp, .emp, .emp]) := by
  have h0 : 0 ≤ m := by have := B.m5; omega
  obtain ⟨x, e1⟩ := c_cell 58 ns k
  replace e1 : C 59 29 [.scr ns, .int k] = .ok (.int x) := e1
  obtain ⟨y3, f3⟩ := c_cell 58 ns 3
  replace f3 : C 59 29 [.scr ns, .int 3] = .ok (.int y3) := f3
  obtain ⟨y4, f4⟩ := c_cell 58 ns 4
  replace f4 : C 59 29 [.scr ns, .int 4] = .ok (.int y4) := f4
  have e4 : C 59 30 [.int (y3 + k), .int 9689, .int 3] = .ok (.int (mixI (y3 + k) 9689 3)) := c_mix 58 _ _ _ (by omega) (by omega)
  have r4 := mix_rng (y3 + k) 9689 3 (by omega)
  generalize mixI (y3 + k) 9689 3 = q at *
  obtain ⟨w, hw, hv, e5⟩ := c_dgame (N := 58) (by omega) (M := 3 + q) (c := y4 + 5 * k) (decide ((x + 3 * k) % 2 = 0)) B.g2 B.g3 h0 B.m24
  replace e5 : C 59 41 [boardD m ts rs, .int (3 + q), .int (y4 + 5 * k), .int 40, .bl (decide ((x + 3 * k) % 2 = 0))] = .ok (.tup [.lst (stasD (begS m (3 + q)) w), .lst (w.map intT)]) := e5
  have h1 := c_turns 57 B.g2 B.g3 h0 (by have := B.m24; omega) B.few
  replace h1 : C 59 24 [boardD m ts rs] = .ok (tupsD (turnsP m ts rs)) := h1
  have hpos : (0 : Int) < ((turnsP m ts rs).length : Nat) := by have := B.some; omega
  have e6 : C 59 30 [.int (x + 3 * k), .int 9649, .int ((turnsP m ts rs).length : Nat)] = .ok (.int (mixI (x + 3 * k) 9649 ((turnsP m ts rs).length : Nat))) := c_mix 58 _ _ _ (by omega) hpos
  have r := mix_rng (x + 3 * k) 9649 ((turnsP m ts rs).length : Nat) hpos
  generalize mixI (x + 3 * k) 9649 ((turnsP m ts rs).length : Nat) = i at *
  obtain ⟨i, rfl⟩ : ∃ i' : Nat, i = i' := ⟨i.toNat, by omega⟩
  have hi : i < (turnsP m ts rs).length := by omega
  have e7 := sub_tups hi
  have hT := isTurn_of B.g2 B.g3 h0 (List.getElem_mem hi)
  have hln := len_tups (turnsP m ts rs)
  refine ⟨.int (x + 3 * k), 3 + q, w, (turnsP m ts rs)[i], ⟨by omega, hw, hv, hT⟩, ?_⟩
  generalize (turnsP m ts rs)[i] = σ at *
  have k1 : compL (fun d => (((((((C 59 20 [d]).bind fun d => R.ok [d]).bind fun ds => C 59 22 ds).bind fun d => R.ok [d, intT σ]).bind fun ds => C 59 27 ds).bind fun x => R.ok (some x)).noexc)) (w.map intT) = .ok ((newT σ w).map intT) := by
    rw [compL_map (g := fun mv => intT (mv.map (tauP σ))) fun mv hm => by
      obtain ⟨l, a1, a2, a3⟩ := mv_new B hv hT hm
      simp only [a1, R.ok_bind, a2, a3]; rfl, List.map_map]; rfl
  have bt : ∀ L : List D, blt .tup [.lst L] = .ok (.tup L) := fun _ => rfl
  generalize (newT σ w).map intT = NW at *
  generalize w.map intT = WD at *
  generalize tupsD (turnsP m ts rs) = TD at *
  simp [bK, forB, takeS, d42, e1, small, f3, f4, e4, e5, h1, hln, e6, e7, k1, bt]

end K16

namespace K16
open Ev
theorem part2 (S K c TD : D) {m : Int} {ts rs : List (List Int)} (B : Bd m ts rs) {M : Int} {w : List (List Int)} {σ : List Int} (R0 : Dr m ts rs M w σ) :
    ∃ H W, execL (cl 59) (takeS 6 (tailS 6 bK)) [.val S, .val K, .val (boardD m ts rs), .val c, .val (.int M), .val (.lst (stasD (begS m M) w)), .val (.lst (w.map intT)), .val TD, .val (intT σ), .val (.tup ((newT σ w).map intT)), .emp, .emp, .emp, .emp, .emp, .emp, .emp] =
      .ok (.nx [.val S, .val K, .val (boardD m ts rs), .val c, .val (.int M), .val (.lst (stasD (begS m M) w)), .val (.lst (w.map intT)), .val TD, .val (intT σ), .val (.tup ((newT σ w).map intT)), .val H, .val W, .emp, .emp, .emp, .emp, .emp]) := by
  have h0 : 0 ≤ m := by have := B.m5; omega
  have hl := beg_len (M := M) h0
  have hr := beg_run R0.val
  have hbt : (begS m M).turn σ = begS m M := beg_turn R0.turn h0
  have v2 := val_turn R0.turn B.g2 B.g3 h0 hl R0.val
  rw [hbt] at v2
  have l2 : (newT σ w).length = w.length := List.length_map _
  have len := R0.len
  have a1 := c_stands_of (N := 58) (by omega) (newT σ w) B.g2 B.g3 h0 B.m24 (by omega) v2
  have a2 := c_game (N := 58) (by omega) (newT σ w) B.g2 B.g3 h0 B.m24 (by omega) v2
  have a3 := c_game (N := 58) (by omega) w B.g2 B.g3 h0 B.m24 (by omega) R0.val
  have ho := how_turn R0.turn B.g2 B.g3 h0 hl hr
  rw [hbt] at ho
  have la := last_turn R0.turn B.g2 hl hr
  rw [hbt] at la
  have st := stas_turn R0.turn B.g2 hl hr
  rw [hbt] at st
  rw [ho] at a2
  replace a1 : C 59 17 [boardD m ts rs, .int M, .tup ((newT σ w).map intT)] = .ok (.tup (stasD (begS m M) (newT σ w))) := a1
  replace a2 : C 59 16 [boardD m ts rs, .int M, .tup ((newT σ w).map intT)] = .ok (.tup [(lastOf (begS m M) (newT σ w)).d, howP ts (begS m M) w]) := a2
  replace a3 : C 59 16 [boardD m ts rs, .int M, .tup (w.map intT)] = .ok (.tup [(lastOf (begS m M) w).d, howP ts (begS m M) w]) := a3
  have k1 : compL (fun d => ((C 59 25 [d, intT σ]).bind fun x => R.ok (some x)).noexc) (stasD (begS m M) w) = .ok (stasD (begS m M) (newT σ w)) := by
    unfold stasD
    rw [st, compL_map (g := fun s : Sta => (s.turn σ).d) fun s hs => by
      have e := c_turned 58 (s := s) R0.turn (stas_lens hl s hs)
      replace e : C 59 25 [s.d, intT σ] = .ok (s.turn σ).d := e
      rw [e]; rfl, List.map_map]; rfl
  have s1 := same_stas 55 (begS m M) (newT σ w)
  replace s1 : C 59 31 [.tup (stasD (begS m M) (newT σ w)), .tup (stasD (begS m M) (newT σ w))] = .ok (.bl true) := s1
  have q1 := sub_stasT (s0 := begS m M) (w := newT σ w)
  have q2 := sub_stasL (s0 := begS m M) (w := w)
  have n1 := ne_end (ts := ts) (s0 := begS m M) (w := w) (t := lastOf (begS m M) (newT σ w))
  have al := c_alike 56 (s := lastOf (begS m M) (newT σ w)) (t := lastOf (begS m M) w) B.g2 B.g3 h0 (by have := B.m24; omega) (last_len hl) B.few
  replace al : C 59 28 [boardD m ts rs, (lastOf (begS m M) (newT σ w)).d, (lastOf (begS m M) w).d] = .ok (.bl (alikeP m ts rs (lastOf (begS m M) (newT σ w)) (lastOf (begS m M) w))) := al
  have ab : alikeP m ts rs (lastOf (begS m M) (newT σ w)) (lastOf (begS m M) w) = true := by
    show alikeP m ts rs (lastOf (begS m M) (w.map (List.map (tauP σ)))) (lastOf (begS m M) w) = true
    rw [la]
    exact alike_back B R0.turn (last_len hl)
  rw [ab] at al
  have k2 : compL (fun d => ((((((((C 59 18 [d]).bind fun x => R.ok [x]).bind fun ds => R.ok (boardD m ts rs :: ds)).bind fun ds => C 59 19 ds).bind fun x => R.ok [x, d]).bind fun ds => C 59 31 ds).bind fun x => (truth x).bind fun k => R.ok (D.bl !k)).bind fun x => R.ok (some x)).noexc) (stasD (begS m M) w) = .ok ((stasOf (begS m M) w).map fun _ => .bl false) := by
    unfold stasD
    rw [compL_map (g := fun s : Sta => .bl false) fun s hs => by
      obtain ⟨l, b1, b2, b3⟩ := sta_wr B (by have := R0.M3; omega) R0.val hs
      simp only [b1, R.ok_bind, b2, b3]; rfl]
  have an := any_no (stasOf (begS m M) w)
  refine ⟨.tup (stasD (begS m M) (newT σ w)), howP ts (begS m M) w, ?_⟩
  have bt : ∀ L : List D, blt .tup [.lst L] = .ok (.tup L) := fun _ => rfl
  have sb : ∀ x y : D, subD (.tup [x, y]) (.int 1) = .ok y := fun _ _ => rfl
  generalize howP ts (begS m M) w = W at *
  generalize (newT σ w).map intT = NW at *
  generalize w.map intT = WD at *
  generalize lastOf (begS m M) (newT σ w) = L2 at *
  generalize lastOf (begS m M) w = L1 at *
  generalize stasD (begS m M) (newT σ w) = Z2 at *
  generalize stasD (begS m M) w = Z1 at *
  generalize (stasOf (begS m M) w).map (fun _ => D.bl false) = ZZ at *
  simp [bK, forB, takeS, tailS, d42, a1, a2, a3, k1, s1, q1, q2, n1, al, k2, an, bt, sb]

end K16

namespace K16
open Ev
def bWh : SL := forB (tailS 13 bK)
theorem left_who {S K c TD SG NW H W T : D} {m : Int} {ts rs : List (List Int)} {M : Int} {w : List (List Int)} (v : Bool) {ms : List (Option Bool)} {a b : Int} {t : Bool} (q2 : subD (.lst (stasD (begS m M) w)) (.int (-1)) = .ok (Sta.d ⟨ms, a, b, t⟩)) (N : Int) (hT : subD T (.int (whoI v)) = .ok (.int N)) (tk : ((idxs (isMan v) ms).length : Int) + lft a b v = M - N) :
    stepR [13] (execL (cl 59) bWh [.val S, .val K, .val (boardD m ts rs), .val c, .val (.int M), .val (.lst (stasD (begS m M) w)), .val (.lst (w.map intT)), .val TD, .val SG, .val NW, .val H, .val W, .val T, .val (.int (whoI v)), .emp, .emp, .emp]) =
      .ok [.val S, .val K, .val (boardD m ts rs), .val c, .val (.int M), .val (.lst (stasD (begS m M) w)), .val (.lst (w.map intT)), .val TD, .val SG, .val NW, .val H, .val W, .val T, .emp, .emp, .emp, .emp] := by
  have x0 : subD (Sta.d ⟨ms, a, b, t⟩) (.int 0) = .ok (.tup (mensD ms)) := rfl
  have x1 : subD (Sta.d ⟨ms, a, b, t⟩) (.int 1) = .ok (.tup [.int a, .int b]) := rfl
  have c1 := count_men ms v
  have y0 : subD (.tup [.int a, .int b]) (.int (whoI v)) = .ok (.int (lft a b v)) := by cases v <;> rfl
  have ng : negD (.int 1) = .ok (.int (-1)) := rfl
  simp [bWh, bK, forB, takeS, tailS, d42, q2, x0, x1, y0, ng, c1, hT, tk]
theorem part3 (S K c TD SG NW H W : D) {m : Int} {ts rs : List (List Int)} (B : Bd m ts rs) {M : Int} {w : List (List Int)} {σ : List Int} (R0 : Dr m ts rs M w σ) :
    stepR [1, 2, 3, 4, 5, 6, 7, 8, 9, 10, 11, 12, 13] (execL (cl 59) (tailS 12 bK) [.val S, .val K, .val (boardD m ts rs), .val c, .val (.int M), .val (.lst (stasD (begS m M) w)), .val (.lst (w.map intT)), .val TD, .val SG, .val NW, .val H, .val W, .emp, .emp, .emp, .emp, .emp]) =
      .ok [.val S, .emp, .emp, .emp, .emp, .emp, .emp, .emp, .emp, .emp, .emp, .emp, .emp, .emp, .emp, .emp, .emp] := by
  have h0 : 0 ≤ m := by have := B.m5; omega
  have hl := beg_len (M := M) h0
  have hr := beg_run R0.val
  have q2 := sub_stasL (s0 := begS m M) (w := w)
  have tk : ∀ v : Bool, ((idxs (isMan v) (lastOf (begS m M) w).ms).length : Int) + lft (lastOf (begS m M) w).a (lastOf (begS m M) w).b v = M - tookF v 0 w := fun v => beg_took B.g2 h0 v hr
  have en : enumL (w.map intT) = w.zipIdx.map fun p => .tup [.int (p.2 : Nat), intT p.1] := enum_map intT w
  have kk : ∀ v : Bool, compL (fun d => ((setT (TG.tup [16, 14]) d [some S, some K, some (boardD m ts rs), some c, some (D.int M), some (D.lst (stasD (begS m M) w)), some (D.lst (List.map intT w)), some TD, some SG, some NW, some H, some W, none, some (D.int (whoI v)), none, none, none]).bind
      fun env' => (((((getV env' 14).bind fun x => subD x (D.int 2)).bind fun x => cmpop CO.ge x (D.int 0)).bind fun d => (truth d).bind fun t => if t = true then ((getV env' 16).bind fun x => binop BO.mod x (D.int 2)).bind fun x => (getV env' 13).bind fun y => cmpop CO.ne x y else R.ok d).bind truth).bind
        fun k => if k = true then R.ok (some (D.int 1)) else R.ok none).noexc) (enumL (w.map intT)) = .ok ((w.zipIdx.filter (tkQ v)).map fun _ => .int 1) := fun v => by
    rw [en]
    refine compL_filt fun p hp => ?_
    obtain ⟨mv, i⟩ := p
    have hm : mv ∈ w := by
      have := List.mem_zipIdx hp
      rw [this.2.2]; exact List.getElem_mem _
    obtain ⟨x, y, z, rfl, _, _, _⟩ := mv_bnd B R0.val hm
    have e1 : subD (intT [x, y, z]) (.int 2) = .ok (.int z) := rfl
    have tq : tkQ v ([x, y, z], i) = (decide (0 ≤ z) && !decide ((i : Int) % 2 = whoI v)) := rfl
    simp only [tq]
    by_cases h1 : 0 ≤ z <;> by_cases h2 : (i : Int) % 2 = whoI v <;> simp [e1, h1, h2]
  have k0 := kk false
  have k1 := kk true
  have z0 : D.int (whoI false) = .int 0 := rfl
  have z1 : D.int (whoI true) = .int 1 := rfl
  rw [z0] at k0
  rw [z1] at k1
  have ln : ∀ v : Bool, blt .len [.lst ((w.zipIdx.filter (tkQ v)).map fun _ => D.int 1)] = .ok (.int (tookF v 0 w : Nat)) := fun v => by
    have e : blt .len [.lst ((w.zipIdx.filter (tkQ v)).map fun _ => D.int 1)] = .ok (.int (((w.zipIdx.filter (tkQ v)).map fun _ => D.int 1).length : Nat)) := by
      have hlen : ((w.zipIdx.filter (tkQ v)).map fun _ => D.int 1).length ≤ 40 := by
        rw [List.length_map]
        have := List.length_filter_le (tkQ v) w.zipIdx
        rw [List.length_zipIdx] at this
        have := R0.len
        omega
      simp
    rw [e, List.length_map, took_filter]
  have l0 := ln false
  have l1 := ln true
  have t0 := tk false
  have t1 := tk true
  have lp : forL (execL (cl 59) bWh) (.one 13) [13] [.int 0, .int 1] [.val S, .val K, .val (boardD m ts rs), .val c, .val (.int M), .val (.lst (stasD (begS m M) w)), .val (.lst (w.map intT)), .val TD, .val SG, .val NW, .val H, .val W, .val (.lst [.int (tookF false 0 w : Nat), .int (tookF true 0 w : Nat)]), .emp, .emp, .emp, .emp] =
      .ok (.nx [.val S, .val K, .val (boardD m ts rs), .val c, .val (.int M), .val (.lst (stasD (begS m M) w)), .val (.lst (w.map intT)), .val TD, .val SG, .val NW, .val H, .val W, .val (.lst [.int (tookF false 0 w : Nat), .int (tookF true 0 w : Nat)]), .emp, .emp, .emp, .emp]) :=
    forL_all fun d hd => by
      generalize lastOf (begS m M) w = L at *
      obtain ⟨ms, a, b, t⟩ := L
      simp only [List.mem_cons, List.not_mem_nil, or_false] at hd
      rcases hd with rfl | rfl
      · exact left_who false q2 (tookF false 0 w : Nat) rfl t0
      · exact left_who true q2 (tookF true 0 w : Nat) rfl t1
  generalize (w.zipIdx.filter (tkQ false)).map (fun _ => D.int 1) = F0 at *
  generalize (w.zipIdx.filter (tkQ true)).map (fun _ => D.int 1) = F1 at *
  simp only [bWh, bK, forB, tailS, d42] at lp
  simp [bK, forB, takeS, tailS, d42, k0, k1, l0, l1, lp]

end K16

namespace K16
open Ev
theorem few_of {m : Int} {ts rs : List (List Int)} {n : Nat} (hn : m.toNat = n) (h : ((List.range n).all fun k => decide ((turnK m ts rs k).length * n + 1000 < 4000000)) = true) : ∀ k, k < m.toNat → (turnK m ts rs k).length * m.toNat + 1000 < 4000000 := fun k hk => by
  rw [hn] at hk ⊢
  exact of_decide_eq_true (List.all_eq_true.mp h k (List.mem_range.mpr hk))
theorem fw1 : ((List.range 8).all fun k => decide ((turnK 8 t1 r1 k).length * 8 + 1000 < 4000000)) = true := by decide +kernel
theorem fw0 : ((List.range 9).all fun k => decide ((turnK 9 t0 r0 k).length * 9 + 1000 < 4000000)) = true := by decide +kernel
theorem fw2 : ((List.range 16).all fun k => decide ((turnK 16 t2 r2 k).length * 16 + 1000 < 4000000)) = true := by decide +kernel
theorem ln1 : (turnK 8 t1 r1 8).length = 8 := by decide +kernel
theorem ln0 : (turnK 9 t0 r0 9).length = 8 := by decide +kernel
theorem ln2 : (turnK 16 t2 r2 16).length = 16 := by decide +kernel
theorem bd_of {m : Int} {ts rs : List (List Int)} {n l : Nat} (hn : m.toNat = n) (g2 : Good 2 m ts) (g3 : Good 3 m rs) (h5 : 5 ≤ m) (h24 : m ≤ 24) (h : ((List.range n).all fun k => decide ((turnK m ts rs k).length * n + 1000 < 4000000)) = true) (hl : (turnK m ts rs n).length = l) (l0 : 0 < l) : Bd m ts rs := by
  have e : (turnsP m ts rs).length = l := by unfold turnsP; rw [hn]; exact hl
  exact ⟨g2, g3, h5, h24, few_of hn h, by omega⟩
theorem bd1 : Bd 8 t1 r1 := by
  obtain ⟨z1, z2, z3, z4, z5, z6, z7, z8⟩ := gg
  exact bd_of (n := 8) (l := 8) rfl (good_of z3) (good_of z4) (by omega) (by omega) fw1 ln1 (by omega)
theorem bd0 : Bd 9 t0 r0 := by
  obtain ⟨z1, z2, z3, z4, z5, z6, z7, z8⟩ := gg
  exact bd_of (n := 9) (l := 8) rfl (good_of z1) (good_of z2) (by omega) (by omega) fw0 ln0 (by omega)
theorem bd2 : Bd 16 t2 r2 := by
  obtain ⟨z1, z2, z3, z4, z5, z6, z7, z8⟩ := gg
  exact bd_of (n := 16) (l := 16) rfl (good_of z5) (good_of z6) (by omega) (by omega) fw2 ln2 (by omega)
theorem two_parts (n : Nat) (s : SL) (env e1 : SEnv) (h : execL (cl 59) (takeS n s) env = .ok (.nx e1)) : execL (cl 59) s env = execL (cl 59) (tailS n s) e1 := by
  rw [exec_split _ n, h]; rfl
theorem look1 (ns : List Int) (k : Nat) {m : Int} {ts rs : List (List Int)} (B : Bd m ts rs) : stepR [1, 2, 3, 4, 5, 6, 7, 8, 9, 10, 11, 12, 13] (execL (cl 59) bK [.val (.scr ns), .val (.int k), .val (boardD m ts rs), .emp, .emp, .emp, .emp, .emp, .emp, .emp, .emp, .emp, .emp, .emp, .emp, .emp, .emp]) = .ok [.val (.scr ns), .emp, .emp, .emp, .emp, .emp, .emp, .emp, .emp, .emp, .emp, .emp, .emp, .emp, .emp, .emp, .emp] := by
  obtain ⟨c, M, w, σ, R0, p1⟩ := part1 ns k B
  obtain ⟨H, W, p2⟩ := part2 (.scr ns) (.int k) c (tupsD (turnsP m ts rs)) B R0
  rw [two_parts 6 _ _ _ p1, two_parts 6 _ _ _ p2]
  have e : tailS 6 (tailS 6 bK) = tailS 12 bK := rfl
  rw [e]
  exact part3 (.scr ns) (.int k) c (tupsD (turnsP m ts rs)) (intT σ) _ H W B R0
theorem law_true (ns : List Int) (h : ns.length ≤ 63) : C 60 42 [.scr ns] = .ok (.bl true) := by
  rw [c42]
  have b1 := g_l1
  have b2 := g_l2
  have b0 := g_lgrid
  have lp : forL (execL (cl 59) bK) (.tup [1, 2]) [1, 2, 3, 4, 5, 6, 7, 8, 9, 10, 11, 12, 13] [.tup [.int 0, boardD 8 t1 r1], .tup [.int 1, boardD 16 t2 r2], .tup [.int 2, boardD 9 t0 r0]] [.val (.scr ns), .emp, .emp, .emp, .emp, .emp, .emp, .emp, .emp, .emp, .emp, .emp, .emp, .emp, .emp, .emp, .emp] =
      .ok (.nx [.val (.scr ns), .emp, .emp, .emp, .emp, .emp, .emp, .emp, .emp, .emp, .emp, .emp, .emp, .emp, .emp, .emp, .emp]) :=
    forL_all fun d hd => by
      have st : ∀ (i : Int) (A : D), setTS (.tup [1, 2]) (.tup [.int i, A]) [.val (.scr ns), .emp, .emp, .emp, .emp, .emp, .emp, .emp, .emp, .emp, .emp, .emp, .emp, .emp, .emp, .emp, .emp] = .ok [.val (.scr ns), .val (.int i), .val A, .emp, .emp, .emp, .emp, .emp, .emp, .emp, .emp, .emp, .emp, .emp, .emp, .emp, .emp] := fun _ _ => rfl
      have l0 := look1 ns 0 bd1
      have l1 := look1 ns 1 bd2
      have l2 := look1 ns 2 bd0
      have c0 : ((0 : Nat) : Int) = 0 := rfl
      have c1 : ((1 : Nat) : Int) = 1 := rfl
      have c2 : ((2 : Nat) : Int) = 2 := rfl
      rw [c0] at l0
      rw [c1] at l1
      rw [c2] at l2
      generalize boardD 8 t1 r1 = A1 at *
      generalize boardD 16 t2 r2 = A2 at *
      generalize boardD 9 t0 r0 = A0 at *
      simp only [List.mem_cons, List.not_mem_nil, or_false] at hd
      rcases hd with rfl | rfl | rfl
      · rw [st]; exact l0
      · rw [st]; exact l1
      · rw [st]; exact l2
  have en : enumL [boardD 8 t1 r1, boardD 16 t2 r2, boardD 9 t0 r0] = [.tup [.int 0, boardD 8 t1 r1], .tup [.int 1, boardD 16 t2 r2], .tup [.int 2, boardD 9 t0 r0]] := rfl
  generalize boardD 8 t1 r1 = A1 at *
  generalize boardD 16 t2 r2 = A2 at *
  generalize boardD 9 t0 r0 = A0 at *
  simp only [bK, forB, d42] at lp
  simp [d42, b1, b2, b0, en, lp]

end K16

namespace K16
open PySem PySem.Spec L2 Ev
open PyProof.Rows hiding St
abbrev top (i : Nat) : Stmt := PySem.Challenge.pw_millrows_k16_whole_all_together.main.body.getD i (.Pass ⟨0, 0, 0, 0⟩)
def gl : Nat → Option Str := fun g => match g with
  | 0 => some "LONG"
  | 1 => some "SIGNS"
  | 2 => some "MEN"
  | _ => none
abbrev glob : Nat → Option D := globD
theorem args0 {us : List Value} (h : us.length = 0) : us = [] := List.eq_nil_of_length_eq_zero h
theorem args1 {us : List Value} (h : us.length = 1) : ∃ a0, us = [a0] := by
  match us, h with
  | [a0], _ => exact ⟨a0, rfl⟩
theorem args2 {us : List Value} (h : us.length = 2) : ∃ a0 a1, us = [a0, a1] := by
  match us, h with
  | [a0, a1], _ => exact ⟨a0, a1, rfl⟩
theorem args3 {us : List Value} (h : us.length = 3) : ∃ a0 a1 a2, us = [a0, a1, a2] := by
  match us, h with
  | [a0, a1, a2], _ => exact ⟨a0, a1, a2, rfl⟩
theorem args4 {us : List Value} (h : us.length = 4) : ∃ a0 a1 a2 a3, us = [a0, a1, a2, a3] := by
  match us, h with
  | [a0, a1, a2, a3], _ => exact ⟨a0, a1, a2, a3, rfl⟩
theorem args5 {us : List Value} (h : us.length = 5) : ∃ a0 a1 a2 a3 a4, us = [a0, a1, a2, a3, a4] := by
  match us, h with
  | [a0, a1, a2, a3, a4], _ => exact ⟨a0, a1, a2, a3, a4, rfl⟩
theorem args6 {us : List Value} (h : us.length = 6) : ∃ a0 a1 a2 a3 a4 a5, us = [a0, a1, a2, a3, a4, a5] := by
  match us, h with
  | [a0, a1, a2, a3, a4, a5], _ => exact ⟨a0, a1, a2, a3, a4, a5, rfl⟩
theorem args7 {us : List Value} (h : us.length = 7) : ∃ a0 a1 a2 a3 a4 a5 a6, us = [a0, a1, a2, a3, a4, a5, a6] := by
  match us, h with
  | [a0, a1, a2, a3, a4, a5, a6], _ => exact ⟨a0, a1, a2, a3, a4, a5, a6, rfl⟩
theorem ok0 : DefOk (txOf fds gl xn3) (top 5) d0 := ⟨by decide +kernel, fun _ _ _ _ _ _ us hl => by
  replace hl : us.length = 3 := hl
  obtain ⟨a0, a1, a2, rfl⟩ := args3 hl
  rfl⟩
theorem ok1 : DefOk (txOf fds gl xn3) (top 7) d1 := ⟨by decide +kernel, fun _ _ _ _ _ _ us hl => by
  replace hl : us.length = 2 := hl
  obtain ⟨a0, a1, rfl⟩ := args2 hl
  rfl⟩
theorem ok2 : DefOk (txOf fds gl xn3) (top 8) d2 := ⟨by decide +kernel, fun _ _ _ _ _ _ us hl => by
  replace hl : us.length = 2 := hl
  obtain ⟨a0, a1, rfl⟩ := args2 hl
  rfl⟩
theorem ok3 : DefOk (txOf fds gl xn3) (top 9) d3 := ⟨by decide +kernel, fun _ _ _ _ _ _ us hl => by
  replace hl : us.length = 3 := hl
  obtain ⟨a0, a1, a2, rfl⟩ := args3 hl
  rfl⟩
theorem ok4 : DefOk (txOf fds gl xn3) (top 10) d4 := ⟨by decide +kernel, fun _ _ _ _ _ _ us hl => by
  replace hl : us.length = 2 := hl
  obtain ⟨a0, a1, rfl⟩ := args2 hl
  rfl⟩
theorem ok5 : DefOk (txOf fds gl xn3) (top 12) d5 := ⟨by decide +kernel, fun _ _ _ _ _ _ us hl => by
  replace hl : us.length = 2 := hl
  obtain ⟨a0, a1, rfl⟩ := args2 hl
  rfl⟩
theorem ok6 : DefOk (txOf fds gl xn3) (top 13) d6 := ⟨by decide +kernel, fun _ _ _ _ _ _ us hl => by
  replace hl : us.length = 2 := hl
  obtain ⟨a0, a1, rfl⟩ := args2 hl
  rfl⟩
theorem ok7 : DefOk (txOf fds gl xn3) (top 14) d7 := ⟨by decide +kernel, fun _ _ _ _ _ _ us hl => by
  replace hl : us.length = 4 := hl
  obtain ⟨a0, a1, a2, a3, rfl⟩ := args4 hl
  rfl⟩
theorem ok8 : DefOk (txOf fds gl xn3) (top 15) d8 := ⟨by decide +kernel, fun _ _ _ _ _ _ us hl => by
  replace hl : us.length = 4 := hl
  obtain ⟨a0, a1, a2, a3, rfl⟩ := args4 hl
  rfl⟩
theorem ok9 : DefOk (txOf fds gl xn3) (top 16) d9 := ⟨by decide +kernel, fun _ _ _ _ _ _ us hl => by
  replace hl : us.length = 2 := hl
  obtain ⟨a0, a1, rfl⟩ := args2 hl
  rfl⟩
theorem ok10 : DefOk (txOf fds gl xn3) (top 17) d10 := ⟨by decide +kernel, fun _ _ _ _ _ _ us hl => by
  replace hl : us.length = 2 := hl
  obtain ⟨a0, a1, rfl⟩ := args2 hl
  rfl⟩
theorem ok11 : DefOk (txOf fds gl xn3) (top 18) d11 := ⟨by decide +kernel, fun _ _ _ _ _ _ us hl => by
  replace hl : us.length = 2 := hl
  obtain ⟨a0, a1, rfl⟩ := args2 hl
  rfl⟩
theorem ok12 : DefOk (txOf fds gl xn3) (top 19) d12 := ⟨by decide +kernel, fun _ _ _ _ _ _ us hl => by
  replace hl : us.length = 2 := hl
  obtain ⟨a0, a1, rfl⟩ := args2 hl
  rfl⟩
theorem ok13 : DefOk (txOf fds gl xn3) (top 20) d13 := ⟨by decide +kernel, fun _ _ _ _ _ _ us hl => by
  replace hl : us.length = 3 := hl
  obtain ⟨a0, a1, a2, rfl⟩ := args3 hl
  rfl⟩
theorem ok14 : DefOk (txOf fds gl xn3) (top 23) d14 := ⟨by decide +kernel, fun _ _ _ _ _ _ us hl => by
  replace hl : us.length = 3 := hl
  obtain ⟨a0, a1, a2, rfl⟩ := args3 hl
  rfl⟩
theorem ok15 : DefOk (txOf fds gl xn3) (top 24) d15 := ⟨by decide +kernel, fun _ _ _ _ _ _ us hl => by
  replace hl : us.length = 3 := hl
  obtain ⟨a0, a1, a2, rfl⟩ := args3 hl
  rfl⟩
theorem ok16 : DefOk (txOf fds gl xn3) (top 25) d16 := ⟨by decide +kernel, fun _ _ _ _ _ _ us hl => by
  replace hl : us.length = 3 := hl
  obtain ⟨a0, a1, a2, rfl⟩ := args3 hl
  rfl⟩
theorem ok17 : DefOk (txOf fds gl xn3) (top 26) d17 := ⟨by decide +kernel, fun _ _ _ _ _ _ us hl => by
  replace hl : us.length = 3 := hl
  obtain ⟨a0, a1, a2, rfl⟩ := args3 hl
  rfl⟩
theorem ok18 : DefOk (txOf fds gl xn3) (top 30) d18 := ⟨by decide +kernel, fun _ _ _ _ _ _ us hl => by
  replace hl : us.length = 1 := hl
  obtain ⟨a0, rfl⟩ := args1 hl
  rfl⟩
theorem ok19 : DefOk (txOf fds gl xn3) (top 31) d19 := ⟨by decide +kernel, fun _ _ _ _ _ _ us hl => by
  replace hl : us.length = 2 := hl
  obtain ⟨a0, a1, rfl⟩ := args2 hl
  rfl⟩
theorem ok20 : DefOk (txOf fds gl xn3) (top 32) d20 := ⟨by decide +kernel, fun _ _ _ _ _ _ us hl => by
  replace hl : us.length = 1 := hl
  obtain ⟨a0, rfl⟩ := args1 hl
  rfl⟩
theorem ok21 : DefOk (txOf fds gl xn3) (top 33) d21 := ⟨by decide +kernel, fun _ _ _ _ _ _ us hl => by
  replace hl : us.length = 1 := hl
  obtain ⟨a0, rfl⟩ := args1 hl
  rfl⟩
theorem ok22 : DefOk (txOf fds gl xn3) (top 34) d22 := ⟨by decide +kernel, fun _ _ _ _ _ _ us hl => by
  replace hl : us.length = 1 := hl
  obtain ⟨a0, rfl⟩ := args1 hl
  rfl⟩
theorem ok23 : DefOk (txOf fds gl xn3) (top 36) d23 := ⟨by decide +kernel, fun _ _ _ _ _ _ us hl => by
  replace hl : us.length = 3 := hl
  obtain ⟨a0, a1, a2, rfl⟩ := args3 hl
  rfl⟩
theorem ok24 : DefOk (txOf fds gl xn3) (top 37) d24 := ⟨by decide +kernel, fun _ _ _ _ _ _ us hl => by
  replace hl : us.length = 1 := hl
  obtain ⟨a0, rfl⟩ := args1 hl
  rfl⟩
theorem ok25 : DefOk (txOf fds gl xn3) (top 38) d25 := ⟨by decide +kernel, fun _ _ _ _ _ _ us hl => by
  replace hl : us.length = 2 := hl
  obtain ⟨a0, a1, rfl⟩ := args2 hl
  rfl⟩
theorem ok26 : DefOk (txOf fds gl xn3) (top 39) d26 := ⟨by decide +kernel, fun _ _ _ _ _ _ us hl => by
  replace hl : us.length = 2 := hl
  obtain ⟨a0, a1, rfl⟩ := args2 hl
  rfl⟩
theorem ok27 : DefOk (txOf fds gl xn3) (top 40) d27 := ⟨by decide +kernel, fun _ _ _ _ _ _ us hl => by
  replace hl : us.length = 2 := hl
  obtain ⟨a0, a1, rfl⟩ := args2 hl
  rfl⟩
theorem ok28 : DefOk (txOf fds gl xn3) (top 41) d28 := ⟨by decide +kernel, fun _ _ _ _ _ _ us hl => by
  replace hl : us.length = 3 := hl
  obtain ⟨a0, a1, a2, rfl⟩ := args3 hl
  rfl⟩
theorem ok29 : DefOk (txOf fds gl xn3) (top 43) d29 := ⟨by decide +kernel, fun _ _ _ _ _ _ us hl => by
  replace hl : us.length = 2 := hl
  obtain ⟨a0, a1, rfl⟩ := args2 hl
  rfl⟩
theorem ok30 : DefOk (txOf fds gl xn3) (top 44) d30 := ⟨by decide +kernel, fun _ _ _ _ _ _ us hl => by
  replace hl : us.length = 3 := hl
  obtain ⟨a0, a1, a2, rfl⟩ := args3 hl
  rfl⟩
theorem ok31 : DefOk (txOf fds gl xn3) (top 45) d31 := ⟨by decide +kernel, fun _ _ _ _ _ _ us hl => by
  replace hl : us.length = 2 := hl
  obtain ⟨a0, a1, rfl⟩ := args2 hl
  rfl⟩
theorem ok32 : DefOk (txOf fds gl xn3) (top 46) d32 := ⟨by decide +kernel, fun _ _ _ _ _ _ us hl => by
  replace hl : us.length = 1 := hl
  obtain ⟨a0, rfl⟩ := args1 hl
  rfl⟩
theorem ok33 : DefOk (txOf fds gl xn3) (top 47) d33 := ⟨by decide +kernel, fun _ _ _ _ _ _ us hl => by
  replace hl : us.length = 0 := hl
  obtain rfl := args0 hl
  rfl⟩
theorem ok34 : DefOk (txOf fds gl xn3) (top 48) d34 := ⟨by decide +kernel, fun _ _ _ _ _ _ us hl => by
  replace hl : us.length = 3 := hl
  obtain ⟨a0, a1, a2, rfl⟩ := args3 hl
  rfl⟩
theorem ok35 : DefOk (txOf fds gl xn3) (top 49) d35 := ⟨by decide +kernel, fun _ _ _ _ _ _ us hl => by
  replace hl : us.length = 2 := hl
  obtain ⟨a0, a1, rfl⟩ := args2 hl
  rfl⟩
theorem ok36 : DefOk (txOf fds gl xn3) (top 50) d36 := ⟨by decide +kernel, fun _ _ _ _ _ _ us hl => by
  replace hl : us.length = 2 := hl
  obtain ⟨a0, a1, rfl⟩ := args2 hl
  rfl⟩
theorem ok37 : DefOk (txOf fds gl xn3) (top 51) d37 := ⟨by decide +kernel, fun _ _ _ _ _ _ us hl => by
  replace hl : us.length = 2 := hl
  obtain ⟨a0, a1, rfl⟩ := args2 hl
  rfl⟩
theorem ok38 : DefOk (txOf fds gl xn3) (top 52) d38 := ⟨by decide +kernel, fun _ _ _ _ _ _ us hl => by
  replace hl : us.length = 2 := hl
  obtain ⟨a0, a1, rfl⟩ := args2 hl
  rfl⟩
theorem ok39 : DefOk (txOf fds gl xn3) (top 53) d39 := ⟨by decide +kernel, fun _ _ _ _ _ _ us hl => by
  replace hl : us.length = 2 := hl
  obtain ⟨a0, a1, rfl⟩ := args2 hl
  rfl⟩
theorem ok40 : DefOk (txOf fds gl xn3) (top 54) d40 := ⟨by decide +kernel, fun _ _ _ _ _ _ us hl => by
  replace hl : us.length = 3 := hl
  obtain ⟨a0, a1, a2, rfl⟩ := args3 hl
  rfl⟩
theorem ok41 : DefOk (txOf fds gl xn3) (top 55) d41 := ⟨by decide +kernel, fun _ _ _ _ _ _ us hl => by
  replace hl : us.length = 5 := hl
  obtain ⟨a0, a1, a2, a3, a4, rfl⟩ := args5 hl
  rfl⟩
theorem ok42 : DefOk (txOf fds gl xn3) (top 56) d42 := ⟨by decide +kernel, fun _ _ _ _ _ _ us hl => by
  replace hl : us.length = 1 := hl
  obtain ⟨a0, rfl⟩ := args1 hl
  rfl⟩
def e0 : He.DefD := ⟨("is_whole", none), "is_whole", "is_whole", defArgs (top 5), defBody (top 5), defScope (top 5), [], []⟩
def e1 : He.DefD := ⟨("is_stand", none), "is_stand", "is_stand", defArgs (top 7), defBody (top 7), defScope (top 7), [], []⟩
def e2 : He.DefD := ⟨("points_of", none), "points_of", "points_of", defArgs (top 8), defBody (top 8), defScope (top 8), [], []⟩
def e3 : He.DefD := ⟨("full_rows", none), "full_rows", "full_rows", defArgs (top 9), defBody (top 9), defScope (top 9), [], []⟩
def e4 : He.DefD := ⟨("count", none), "count", "count", defArgs (top 10), defBody (top 10), defScope (top 10), [], []⟩
def e5 : He.DefD := ⟨("neighbours", none), "neighbours", "neighbours", defArgs (top 12), defBody (top 12), defScope (top 12), [], []⟩
def e6 : He.DefD := ⟨("steps", none), "steps", "steps", defArgs (top 13), defBody (top 13), defScope (top 13), [], []⟩
def e7 : He.DefD := ⟨("with_step", none), "with_step", "with_step", defArgs (top 14), defBody (top 14), defScope (top 14), [], []⟩
def e8 : He.DefD := ⟨("takings", none), "takings", "takings", defArgs (top 15), defBody (top 15), defScope (top 15), [], []⟩
def e9 : He.DefD := ⟨("all_moves", none), "all_moves", "all_moves", defArgs (top 16), defBody (top 16), defScope (top 16), [], []⟩
def e10 : He.DefD := ⟨("winner", none), "winner", "winner", defArgs (top 17), defBody (top 17), defScope (top 17), [], []⟩
def e11 : He.DefD := ⟨("moves", none), "moves", "moves", defArgs (top 18), defBody (top 18), defScope (top 18), [], []⟩
def e12 : He.DefD := ⟨("done", none), "done", "done", defArgs (top 19), defBody (top 19), defScope (top 19), [], []⟩
def e13 : He.DefD := ⟨("after", none), "after", "after", defArgs (top 20), defBody (top 20), defScope (top 20), [], []⟩
def e14 : He.DefD := ⟨("how", none), "how", "how", defArgs (top 23), defBody (top 23), defScope (top 23), [], []⟩
def e15 : He.DefD := ⟨("played", none), "played", "played", defArgs (top 24), defBody (top 24), defScope (top 24), [], []⟩
def e16 : He.DefD := ⟨("game", none), "game", "game", defArgs (top 25), defBody (top 25), defScope (top 25), [], []⟩
def e17 : He.DefD := ⟨("stands_of", none), "stands_of", "stands_of", defArgs (top 26), defBody (top 26), defScope (top 26), [], []⟩
def e18 : He.DefD := ⟨("written", none), "written", "written", defArgs (top 30), defBody (top 30), defScope (top 30), [], []⟩
def e19 : He.DefD := ⟨("read", none), "read", "read", defArgs (top 31), defBody (top 31), defScope (top 31), [], []⟩
def e20 : He.DefD := ⟨("told", none), "told", "told", defArgs (top 32), defBody (top 32), defScope (top 32), [], []⟩
def e21 : He.DefD := ⟨("point_of", none), "point_of", "point_of", defArgs (top 33), defBody (top 33), defScope (top 33), [], []⟩
def e22 : He.DefD := ⟨("heard", none), "heard", "heard", defArgs (top 34), defBody (top 34), defScope (top 34), [], []⟩
def e23 : He.DefD := ⟨("is_kept", none), "is_kept", "is_kept", defArgs (top 36), defBody (top 36), defScope (top 36), [], []⟩
def e24 : He.DefD := ⟨("turns", none), "turns", "turns", defArgs (top 37), defBody (top 37), defScope (top 37), [], []⟩
def e25 : He.DefD := ⟨("turned", none), "turned", "turned", defArgs (top 38), defBody (top 38), defScope (top 38), [], []⟩
def e26 : He.DefD := ⟨("turned_point", none), "turned_point", "turned_point", defArgs (top 39), defBody (top 39), defScope (top 39), [], []⟩
def e27 : He.DefD := ⟨("turned_move", none), "turned_move", "turned_move", defArgs (top 40), defBody (top 40), defScope (top 40), [], []⟩
def e28 : He.DefD := ⟨("alike", none), "alike", "alike", defArgs (top 41), defBody (top 41), defScope (top 41), [], []⟩
def e29 : He.DefD := ⟨("_law_cell", none), "_law_cell", "_law_cell", defArgs (top 43), defBody (top 43), defScope (top 43), [], []⟩
def e30 : He.DefD := ⟨("_law_mix", none), "_law_mix", "_law_mix", defArgs (top 44), defBody (top 44), defScope (top 44), [], []⟩
def e31 : He.DefD := ⟨("_law_same", none), "_law_same", "_law_same", defArgs (top 45), defBody (top 45), defScope (top 45), [], []⟩
def e32 : He.DefD := ⟨("_law_ring_board", none), "_law_ring_board", "_law_ring_board", defArgs (top 46), defBody (top 46), defScope (top 46), [], []⟩
def e33 : He.DefD := ⟨("_law_grid_board", none), "_law_grid_board", "_law_grid_board", defArgs (top 47), defBody (top 47), defScope (top 47), [], []⟩
def e34 : He.DefD := ⟨("_law_rows_of", none), "_law_rows_of", "_law_rows_of", defArgs (top 48), defBody (top 48), defScope (top 48), [], []⟩
def e35 : He.DefD := ⟨("_law_steps", none), "_law_steps", "_law_steps", defArgs (top 49), defBody (top 49), defScope (top 49), [], []⟩
def e36 : He.DefD := ⟨("_law_moves", none), "_law_moves", "_law_moves", defArgs (top 50), defBody (top 50), defScope (top 50), [], []⟩
def e37 : He.DefD := ⟨("_law_winner", none), "_law_winner", "_law_winner", defArgs (top 51), defBody (top 51), defScope (top 51), [], []⟩
def e38 : He.DefD := ⟨("_law_after", none), "_law_after", "_law_after", defArgs (top 52), defBody (top 52), defScope (top 52), [], []⟩
def e39 : He.DefD := ⟨("_law_begin", none), "_law_begin", "_law_begin", defArgs (top 53), defBody (top 53), defScope (top 53), [], []⟩
def e40 : He.DefD := ⟨("_law_how", none), "_law_how", "_law_how", defArgs (top 54), defBody (top 54), defScope (top 54), [], []⟩
def e41 : He.DefD := ⟨("_law_drawn_game", none), "_law_drawn_game", "_law_drawn_game", defArgs (top 55), defBody (top 55), defScope (top 55), [], []⟩
def e42 : He.DefD := ⟨("law", none), "law", "law", defArgs (top 56), defBody (top 56), defScope (top 56), [], []⟩
def fn : List He.DefD := [e0, e1, e2, e3, e4, e5, e6, e7, e8, e9, e10, e11, e12, e13, e14, e15, e16, e17, e18, e19, e20, e21, e22, e23, e24, e25, e26, e27, e28, e29, e30, e31, e32, e33, e34, e35, e36, e37, e38, e39, e40, e41, e42]
def fa : List He.Fa := [.glo "is_whole", .glo "is_stand", .glo "points_of", .glo "full_rows", .glo "count", .glo "neighbours", .glo "steps", .glo "with_step", .glo "takings", .glo "all_moves", .glo "winner", .glo "moves", .glo "done", .glo "after", .glo "how", .glo "played", .glo "game", .glo "stands_of", .glo "written", .glo "read", .glo "told", .glo "point_of", .glo "heard", .glo "is_kept", .glo "turns", .glo "turned", .glo "turned_point", .glo "turned_move", .glo "alike", .glo "_law_cell", .glo "_law_mix", .glo "_law_same", .glo "_law_ring_board", .glo "_law_grid_board", .glo "_law_rows_of", .glo "_law_steps", .glo "_law_moves", .glo "_law_winner", .glo "_law_after", .glo "_law_begin", .glo "_law_how", .glo "_law_drawn_game", .glo "law", .free "len", .free "sorted", .free "all", .free "any", .free "int", .free "list", .free "tuple", .free "min", .free "max", .free "str", .free "dict", .free "range", .free "set", .free "isinstance", .free "bool", .free "enumerate", .free "zip", .int "LONG" 40, .glo "SIGNS", .glo "MEN"]
abbrev RR : PySem.W.OpenRow := PySem.W.OpenLaw.row PySem.Challenge.rw_millrows_k16_whole_all_together
def exT (K : PySem.W.Frag) : Bool := ex3 K && (atT K (He.ga K "SIGNS") (fun es => entsV es tabSIGNS && entsH es tabSIGNS) && (atT K (He.ga K "MEN") (fun es => entsV es tabMEN)))
def tabK : List TabK := [("MEN", [".", "x", "o"])]
abbrev hk : PySem.W.Hook := hookZ 4 fa fn exT tabK
def ob (s : PySem.W.SharedT) : AlZ := obsZG 4 fa fn exT tabK (HandSHeadRun.getT s)
theorem ob_eq (s : PySem.W.SharedT) : ob s = hk.obs s.abs := obsZG_eq (HandSHeadRun.getT_eq s)
def loose : List Str := (.cons "is_whole" (.cons "is_stand" (.cons "points_of" (.cons "full_rows" (.cons "count" (.cons "neighbours" (.cons "steps" (.cons "with_step" (.cons "takings" (.cons "all_moves" (.cons "winner" (.cons "moves" (.cons "done" (.cons "after" (.cons "how" (.cons "played" (.cons "game" (.cons "stands_of" (.cons "written" (.cons "read" (.cons "told" (.cons "point_of" (.cons "heard" (.cons "is_kept" (.cons "turns" (.cons "turned" (.cons "turned_point" (.cons "turned_move" (.cons "alike" (.cons "_law_cell" (.cons "_law_mix" (.cons "_law_same" (.cons "_law_ring_board" (.cons "_law_grid_board" (.cons "_law_rows_of" (.cons "_law_steps" (.cons "_law_moves" (.cons "_law_winner" (.cons "_law_after" (.cons "_law_begin" (.cons "_law_how" (.cons "_law_drawn_game" (.cons "MillError" (.cons "NoMove" (.cons "NoText" (.cons "LONG" (.cons "SIGNS" (.cons "MEN" .nil))))))))))))))))))))))))))))))))))))))))))))))))
theorem hrun_true (w : World) : HandSHeadRun.RunEq RR (PySem.W.view RR.prog [56]) hk ob 4000 loose (setW w true) := by
  intro os
  kernel_rfl
theorem hrun_false (w : World) : HandSHeadRun.RunEq RR (PySem.W.view RR.prog [56]) hk ob 4000 loose (setW w false) := by
  intro os
  kernel_rfl
theorem hrun (w : World) : HandSHeadRun.RunEq RR (PySem.W.view RR.prog [56]) hk ob 4000 loose w := by
  have e := setW_eq w
  cases h : w.params.followText "special-get-raises"
  · rw [h] at e; have := hrun_false w; rwa [e] at this
  · rw [h] at e; have := hrun_true w; rwa [e] at this
section
variable {K : PySem.W.Frag} {h : Heap} {mg : Str → Option Value}
theorem hF (X : K.In h) (G : h.Ns mainGlobals mg) (c : He.SaysD fa fn K) : ∀ (f : Nat) (fd : FD), fds[f]? = some fd → ∃ st a fdt, DefOk (txOf fds gl xn3) st fd ∧ FunD K fd.name fd.name (defArgs st) (defBody st) (defScope st) [] [] a fdt ∧ mg fd.name = some (.ref a)
  | 0, _, rfl => by
    obtain ⟨fdt, F⟩ := c.def_ 0 (d := e0) rfl
    exact ⟨top 5, _, fdt, ok0, F, He.glo_ok X G (c.fact 0 (f := .glo "is_whole") rfl)⟩
  | 1, _, rfl => by
    obtain ⟨fdt, F⟩ := c.def_ 1 (d := e1) rfl
    exact ⟨top 7, _, fdt, ok1, F, He.glo_ok X G (c.fact 1 (f := .glo "is_stand") rfl)⟩
  | 2, _, rfl => by
    obtain ⟨fdt, F⟩ := c.def_ 2 (d := e2) rfl
    exact ⟨top 8, _, fdt, ok2, F, He.glo_ok X G (c.fact 2 (f := .glo "points_of") rfl)⟩
  | 3, _, rfl => by
    obtain ⟨fdt, F⟩ := c.def_ 3 (d := e3) rfl
    exact ⟨top 9, _, fdt, ok3, F, He.glo_ok X G (c.fact 3 (f := .glo "full_rows") rfl)⟩
  | 4, _, rfl => by
    obtain ⟨fdt, F⟩ := c.def_ 4 (d := e4) rfl
    exact ⟨top 10, _, fdt, ok4, F, He.glo_ok X G (c.fact 4 (f := .glo "count") rfl)⟩
  | 5, _, rfl => by
    obtain ⟨fdt, F⟩ := c.def_ 5 (d := e5) rfl
    exact ⟨top 12, _, fdt, ok5, F, He.glo_ok X G (c.fact 5 (f := .glo "neighbours") rfl)⟩
  | 6, _, rfl => by
    obtain ⟨fdt, F⟩ := c.def_ 6 (d := e6) rfl
    exact ⟨top 13, _, fdt, ok6, F, He.glo_ok X G (c.fact 6 (f := .glo "steps") rfl)⟩
  | 7, _, rfl => by
    obtain ⟨fdt, F⟩ := c.def_ 7 (d := e7) rfl
    exact ⟨top 14, _, fdt, ok7, F, He.glo_ok X G (c.fact 7 (f := .glo "with_step") rfl)⟩
  | 8, _, rfl => by
    obtain ⟨fdt, F⟩ := c.def_ 8 (d := e8) rfl
    exact ⟨top 15, _, fdt, ok8, F, He.glo_ok X G (c.fact 8 (f := .glo "takings") rfl)⟩
  | 9, _, rfl => by
    obtain ⟨fdt, F⟩ := c.def_ 9 (d := e9) rfl
    exact ⟨top 16, _, fdt, ok9, F, He.glo_ok X G (c.fact 9 (f := .glo "all_moves") rfl)⟩
  | 10, _, rfl => by
    obtain ⟨fdt, F⟩ := c.def_ 10 (d := e10) rfl
    exact ⟨top 17, _, fdt, ok10, F, He.glo_ok X G (c.fact 10 (f := .glo "winner") rfl)⟩
  | 11, _, rfl => by
    obtain ⟨fdt, F⟩ := c.def_ 11 (d := e11) rfl
    exact ⟨top 18, _, fdt, ok11, F, He.glo_ok X G (c.fact 11 (f := .glo "moves") rfl)⟩
  | 12, _, rfl => by
    obtain ⟨fdt, F⟩ := c.def_ 12 (d := e12) rfl
    exact ⟨top 19, _, fdt, ok12, F, He.glo_ok X G (c.fact 12 (f := .glo "done") rfl)⟩
  | 13, _, rfl => by
    obtain ⟨fdt, F⟩ := c.def_ 13 (d := e13) rfl
    exact ⟨top 20, _, fdt, ok13, F, He.glo_ok X G (c.fact 13 (f := .glo "after") rfl)⟩
  | 14, _, rfl => by
    obtain ⟨fdt, F⟩ := c.def_ 14 (d := e14) rfl
    exact ⟨top 23, _, fdt, ok14, F, He.glo_ok X G (c.fact 14 (f := .glo "how") rfl)⟩
  | 15, _, rfl => by
    obtain ⟨fdt, F⟩ := c.def_ 15 (d := e15) rfl
    exact ⟨top 24, _, fdt, ok15, F, He.glo_ok X G (c.fact 15 (f := .glo "played") rfl)⟩
  | 16, _, rfl => by
    obtain ⟨fdt, F⟩ := c.def_ 16 (d := e16) rfl
    exact ⟨top 25, _, fdt, ok16, F, He.glo_ok X G (c.fact 16 (f := .glo "game") rfl)⟩
  | 17, _, rfl => by
    obtain ⟨fdt, F⟩ := c.def_ 17 (d := e17) rfl
    exact ⟨top 26, _, fdt, ok17, F, He.glo_ok X G (c.fact 17 (f := .glo "stands_of") rfl)⟩
  | 18, _, rfl => by
    obtain ⟨fdt, F⟩ := c.def_ 18 (d := e18) rfl
    exact ⟨top 30, _, fdt, ok18, F, He.glo_ok X G (c.fact 18 (f := .glo "written") rfl)⟩
  | 19, _, rfl => by
    obtain ⟨fdt, F⟩ := c.def_ 19 (d := e19) rfl
    exact ⟨top 31, _, fdt, ok19, F, He.glo_ok X G (c.fact 19 (f := .glo "read") rfl)⟩
  | 20, _, rfl => by
    obtain ⟨fdt, F⟩ := c.def_ 20 (d := e20) rfl
    exact ⟨top 32, _, fdt, ok20, F, He.glo_ok X G (c.fact 20 (f := .glo "told") rfl)⟩
  | 21, _, rfl => by
    obtain ⟨fdt, F⟩ := c.def_ 21 (d := e21) rfl
    exact ⟨top 33, _, fdt, ok21, F, He.glo_ok X G (c.fact 21 (f := .glo "point_of") rfl)⟩
  | 22, _, rfl => by
    obtain ⟨fdt, F⟩ := c.def_ 22 (d := e22) rfl
    exact ⟨top 34, _, fdt, ok22, F, He.glo_ok X G (c.fact 22 (f := .glo "heard") rfl)⟩
  | 23, _, rfl => by
    obtain ⟨fdt, F⟩ := c.def_ 23 (d := e23) rfl
    exact ⟨top 36, _, fdt, ok23, F, He.glo_ok X G (c.fact 23 (f := .glo "is_kept") rfl)⟩
  | 24, _, rfl => by
    obtain ⟨fdt, F⟩ := c.def_ 24 (d := e24) rfl
    exact ⟨top 37, _, fdt, ok24, F, He.glo_ok X G (c.fact 24 (f := .glo "turns") rfl)⟩
  | 25, _, rfl => by
    obtain ⟨fdt, F⟩ := c.def_ 25 (d := e25) rfl
    exact ⟨top 38, _, fdt, ok25, F, He.glo_ok X G (c.fact 25 (f := .glo "turned") rfl)⟩
  | 26, _, rfl => by
    obtain ⟨fdt, F⟩ := c.def_ 26 (d := e26) rfl
    exact ⟨top 39, _, fdt, ok26, F, He.glo_ok X G (c.fact 26 (f := .glo "turned_point") rfl)⟩
  | 27, _, rfl => by
    obtain ⟨fdt, F⟩ := c.def_ 27 (d := e27) rfl
    exact ⟨top 40, _, fdt, ok27, F, He.glo_ok X G (c.fact 27 (f := .glo "turned_move") rfl)⟩
  | 28, _, rfl => by
    obtain ⟨fdt, F⟩ := c.def_ 28 (d := e28) rfl
    exact ⟨top 41, _, fdt, ok28, F, He.glo_ok X G (c.fact 28 (f := .glo "alike") rfl)⟩
  | 29, _, rfl => by
    obtain ⟨fdt, F⟩ := c.def_ 29 (d := e29) rfl
    exact ⟨top 43, _, fdt, ok29, F, He.glo_ok X G (c.fact 29 (f := .glo "_law_cell") rfl)⟩
  | 30, _, rfl => by
    obtain ⟨fdt, F⟩ := c.def_ 30 (d := e30) rfl
    exact ⟨top 44, _, fdt, ok30, F, He.glo_ok X G (c.fact 30 (f := .glo "_law_mix") rfl)⟩
  | 31, _, rfl => by
    obtain ⟨fdt, F⟩ := c.def_ 31 (d := e31) rfl
    exact ⟨top 45, _, fdt, ok31, F, He.glo_ok X G (c.fact 31 (f := .glo "_law_same") rfl)⟩
  | 32, _, rfl => by
    obtain ⟨fdt, F⟩ := c.def_ 32 (d := e32) rfl
    exact ⟨top 46, _, fdt, ok32, F, He.glo_ok X G (c.fact 32 (f := .glo "_law_ring_board") rfl)⟩
  | 33, _, rfl => by
    obtain ⟨fdt, F⟩ := c.def_ 33 (d := e33) rfl
    exact ⟨top 47, _, fdt, ok33, F, He.glo_ok X G (c.fact 33 (f := .glo "_law_grid_board") rfl)⟩
  | 34, _, rfl => by
    obtain ⟨fdt, F⟩ := c.def_ 34 (d := e34) rfl
    exact ⟨top 48, _, fdt, ok34, F, He.glo_ok X G (c.fact 34 (f := .glo "_law_rows_of") rfl)⟩
  | 35, _, rfl => by
    obtain ⟨fdt, F⟩ := c.def_ 35 (d := e35) rfl
    exact ⟨top 49, _, fdt, ok35, F, He.glo_ok X G (c.fact 35 (f := .glo "_law_steps") rfl)⟩
  | 36, _, rfl => by
    obtain ⟨fdt, F⟩ := c.def_ 36 (d := e36) rfl
    exact ⟨top 50, _, fdt, ok36, F, He.glo_ok X G (c.fact 36 (f := .glo "_law_moves") rfl)⟩
  | 37, _, rfl => by
    obtain ⟨fdt, F⟩ := c.def_ 37 (d := e37) rfl
    exact ⟨top 51, _, fdt, ok37, F, He.glo_ok X G (c.fact 37 (f := .glo "_law_winner") rfl)⟩
  | 38, _, rfl => by
    obtain ⟨fdt, F⟩ := c.def_ 38 (d := e38) rfl
    exact ⟨top 52, _, fdt, ok38, F, He.glo_ok X G (c.fact 38 (f := .glo "_law_after") rfl)⟩
  | 39, _, rfl => by
    obtain ⟨fdt, F⟩ := c.def_ 39 (d := e39) rfl
    exact ⟨top 53, _, fdt, ok39, F, He.glo_ok X G (c.fact 39 (f := .glo "_law_begin") rfl)⟩
  | 40, _, rfl => by
    obtain ⟨fdt, F⟩ := c.def_ 40 (d := e40) rfl
    exact ⟨top 54, _, fdt, ok40, F, He.glo_ok X G (c.fact 40 (f := .glo "_law_how") rfl)⟩
  | 41, _, rfl => by
    obtain ⟨fdt, F⟩ := c.def_ 41 (d := e41) rfl
    exact ⟨top 55, _, fdt, ok41, F, He.glo_ok X G (c.fact 41 (f := .glo "_law_drawn_game") rfl)⟩
  | 42, _, rfl => by
    obtain ⟨fdt, F⟩ := c.def_ 42 (d := e42) rfl
    exact ⟨top 56, _, fdt, ok42, F, He.glo_ok X G (c.fact 42 (f := .glo "law") rfl)⟩
  | n + 43, _, h => by cases h
theorem hb (X : K.In h) (G : h.Ns mainGlobals mg) (c : He.SaysD fa fn K) : ∀ x ∈ bNames, mg (Str.ofString x) = none := by
  intro x hx
  simp only [bNames, List.mem_cons, List.not_mem_nil, or_false] at hx
  rcases hx with rfl | rfl | rfl | rfl | rfl | rfl | rfl | rfl | rfl | rfl | rfl | rfl | rfl | rfl | rfl | rfl | rfl
  · exact He.free_ok X G (c.fact 43 (f := .free "len") rfl)
  · exact He.free_ok X G (c.fact 44 (f := .free "sorted") rfl)
  · exact He.free_ok X G (c.fact 45 (f := .free "all") rfl)
  · exact He.free_ok X G (c.fact 46 (f := .free "any") rfl)
  · exact He.free_ok X G (c.fact 47 (f := .free "int") rfl)
  · exact He.free_ok X G (c.fact 48 (f := .free "list") rfl)
  · exact He.free_ok X G (c.fact 49 (f := .free "tuple") rfl)
  · exact He.free_ok X G (c.fact 50 (f := .free "min") rfl)
  · exact He.free_ok X G (c.fact 51 (f := .free "max") rfl)
  · exact He.free_ok X G (c.fact 52 (f := .free "str") rfl)
  · exact He.free_ok X G (c.fact 53 (f := .free "dict") rfl)
  · exact He.free_ok X G (c.fact 54 (f := .free "range") rfl)
  · exact He.free_ok X G (c.fact 55 (f := .free "set") rfl)
  · exact He.free_ok X G (c.fact 56 (f := .free "isinstance") rfl)
  · exact He.free_ok X G (c.fact 57 (f := .free "bool") rfl)
  · exact He.free_ok X G (c.fact 58 (f := .free "enumerate") rfl)
  · exact He.free_ok X G (c.fact 59 (f := .free "zip") rfl)
theorem hg {P : Program} {w : World} (X : K.In h) (G : h.Ns mainGlobals mg) (c : He.SaysD fa fn K) (cx : exT K = true) (ct : TabsOk tabK w K) : ∀ g x, gl g = some x → ∀ d, glob g = some d → ∃ v u, mg x = some u ∧ RelV v u ∧ ∀ G H, Rep ⟨P, w, K⟩ G H v d := by
  intro g x hx d hd
  match g, hx, hd with
  | 0, hx, hd =>
    cases hx; cases hd
    obtain ⟨t, ht⟩ := He.int_ok X G (c.fact 60 (f := .int "LONG" 40) rfl)
    exact ⟨.int 40, _, ht, ⟨t, rfl⟩, fun _ _ => .int _⟩
  | 1, hx, hd =>
    cases hx; cases hd
    have e := (He.ba (He.ba cx).2).1
    have tt : TabAt P w K (He.ga K "SIGNS") tabSIGNS := tab_num e
    exact ⟨.ref (He.ga K "SIGNS"), _, He.glo_ok X G (c.fact 61 (f := .glo "SIGNS") rfl), rfl, fun _ _ => .tab tt⟩
  | 2, hx, hd =>
    cases hx; cases hd
    have e := (He.ba (He.ba cx).2).2
    have tt : TabAt P w K (He.ga K "MEN") tabMEN := tab_txt e (ct.tab 0)
    exact ⟨.ref (He.ga K "MEN"), _, He.glo_ok X G (c.fact 62 (f := .glo "MEN") rfl), rfl, fun _ _ => .tab tt⟩
end
theorem facts {P : Program} {w : World} {K : PySem.W.Frag} {h : Heap} {mg : Str → Option Value} {f : Addr} (X : K.In h) (G : h.Ns mainGlobals mg) (hfa : mg ("law" : Str) = some (.ref f)) (c : He.SaysD fa fn K) (cx : exT K = true) (ct : TabsOk tabK w K) :
    ∃ fd : FuncData, (∀ (s : Shared) (v : Value), BindsTo s fd ⟨[v], []⟩ [("_law_script", v)]) ∧ ∀ base : Heap, K.In base → base.Ns mainGlobals mg → FnOk P w K mg base (L2.CX P w) 60 f fd ["_law_script"] (spF ⟨P, w, K⟩ (xc3 K) (callE (fun f => fds[f]?) glob 100 60 42)) := by
  obtain ⟨fd, F⟩ := c.def_ 42 (d := e42) rfl
  have e := hfa.symm.trans (He.glo_ok X G (c.fact 42 (f := .glo "law") rfl))
  cases e
  refine ⟨fd, fun s v => FunD.bindsA (ps := ["_law_script"]) F ok42.bd s [v] rfl, fun base X2 G2 => ?_⟩
  exact defs_ok (hF X2 G2 c) (xok3 X2 G2 (He.ba cx).1) (hb X2 G2 c) (hg X2 G2 c cx ct) 60 42 d42 rfl _ _ _ ok42 F
end K16
open PySem PySem.W PySem.Calls PyProof.Rows
theorem PySem.Challenge.cw_millrows_k16_whole_all_together_holds : PySem.Challenge.rw_millrows_k16_whole_all_together.Holds := by
  w_on; o_law
  refine HandSHeadRun.head_any (r := OpenLaw.row PySem.Challenge.rw_millrows_k16_whole_all_together) (q := view (OpenLaw.row PySem.Challenge.rw_millrows_k16_whole_all_together).prog [56]) (H := K16.hk) (ob := K16.ob) (M := 4000) (loose := K16.loose) (d := HandSHeadRun.topDef (OpenLaw.row PySem.Challenge.rw_millrows_k16_whole_all_together).prog 56) (kwd := []) K16.ob_eq
    (by kernel_rfl) (fun s => by kernel_rfl) K16.hrun (by kernel_rfl) (by kernel_rfl) (by kernel_rfl) (by rfl) (by first | assumption | decide +kernel) (by decide +kernel) ⟨rfl, rfl, rfl, rfl, rfl, by decide +kernel⟩ ?hw ?hc
  case hw => w_witness2
  case hc =>
    refine L2.walk_ofE (l := PySem.Challenge.rw_millrows_k16_whole_all_together) (n := 63) (k := 60) (x := "_law_script") (CX := Ev.CXs (PySem.Challenge.rw_millrows_k16_whole_all_together).prog) rfl (by decide) (by kernel_rfl) ⟨rfl, by decide, by decide⟩ ?F (fun H s e s' z => Ev.cxs_no H s e s' z)
    intro w mg fa h Y G hmg0
    obtain ⟨K, KX, c, cx, ct⟩ := Y
    have hmg : mg ("law" : PySem.Str) = some (.ref fa) := by
      have e : (HandSHeadRun.topDef (OpenLaw.row PySem.Challenge.rw_millrows_k16_whole_all_together).prog 56).name = ("law" : PySem.Str) := by kernel_rfl
      rw [← e]
      exact hmg0
    obtain ⟨fd, hb, hF⟩ := K16.facts (P := (PySem.Challenge.rw_millrows_k16_whole_all_together).prog) (w := w) KX G hmg c cx ct
    exact ⟨K, fd, _, KX, hb, fun H a ns hl _ hS => Ev.sp_law (K16.law_true ns hl) hS, fun base X2 G2 => Ev.fn_cxs (hF base X2 G2)⟩

