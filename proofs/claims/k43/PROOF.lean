import PyProof.Rows.All
import Wide.All
import OpenK.AllK
import Wide.FinOn
import PyProof.EqAt
import PyProof.EqKinds
import PyProof.TupleCall
import HandS.Base
import HandS.Call
import HandS.List
import HandS.Set
import HandS.Strs
import KE.KExcSuper
import KE.KSuper
import KE.RegKSuper
import HandS.Ends
import HandS.Exc
import HandS.ExcSuper
import HandS.Words
import KE.KExcIs
import HandS.ForExc
import HandS.ExcField
import HandS.ExcIs
import PyProof.EnumMake
import PyProof.Draws
import KE.GoesMore
import HandS.Comp
import HandS.Dict
import HandS.Iter
import HandS.Walk
import HandS.ForMost
import HandS.Evl
import HandS.IsInst
import HandS.TupAny
import HandS.Steps
import HandS.WordsExc
import PySem.Challenge.RW_askedthen_k43_schemas_and_rows
set_option Elab.async false
set_option linter.all false
set_option maxRecDepth 100000
set_option maxHeartbeats 8000000
/-! A set made of a list or a tuple of any few texts: how many it holds. -/
namespace K43
open PySem PySem.Spec PyProof.Rows

/-- one more text to those met so far -/
def meet1 (l : List Str) (x : Str) : List Str := if l.any (· == x) then l else l ++ [x]
/-- the unlike texts of a list -/
def meets (xs : List Str) : List Str := xs.foldl meet1 []
theorem meet1_len (l : List Str) (x : Str) : (meet1 l x).length = if l.any (· == x) = true then l.length else l.length + 1 := by
  unfold meet1
  split <;> simp
theorem meet1_any (l : List Str) (x k : Str) : (meet1 l x).any (· == k) = (l.any (· == k) || decide (k = x)) := by
  unfold meet1
  by_cases h : l.any (· == x) = true
  · rw [if_pos h]
    by_cases e : k = x
    · subst e
      rw [h]
      simp
    · simp [e]
  · rw [if_neg h, List.any_append]
    by_cases e : k = x
    · subst e
      simp
    · have hb : (x == k) = false := by simpa [beq_iff_eq] using (fun z : x = k => e z.symm)
      simp [hb, e]
theorem meets_len : ∀ (xs l : List Str), (xs.foldl meet1 l).length ≤ l.length + xs.length
  | [], l => by simp
  | x :: xs, l => by
    have h := meets_len xs (meet1 l x)
    have h2 : (meet1 l x).length ≤ l.length + 1 := by
      rw [meet1_len]
      split <;> omega
    rw [List.foldl_cons, List.length_cons]
    omega
theorem meets_step {xs : List Str} {i : Nat} {x : Str} (h : xs[i]? = some x) : meets (xs.take (i + 1)) = meet1 (meets (xs.take i)) x := by
  unfold meets
  rw [List.take_add_one, h, List.foldl_append]
  rfl
theorem strs_get : ∀ {us : List Value} {xs : List Str}, StrsAre us xs → ∀ (i : Nat) (v : Value), us[i]? = some v → ∃ x t, xs[i]? = some x ∧ v = .str x t
  | _, _, .nil, i, v, h => by simp at h
  | _, _, .cons n t hr, 0, v, h => ⟨n, t, by simp, by simpa using h.symm⟩
  | _, _, .cons n t hr, i + 1, v, h => by
    obtain ⟨x, t', e1, e2⟩ := strs_get hr i v (by simpa using h)
    exact ⟨x, t', by simpa using e1, e2⟩

section
variable {prog : Program} {w : World} {A : Around} {R : Result → Shared → Prop} {I : Addr} {fp wr : List Addr} {G : Array GenState → Array GenState → Prop} {n : Nat} {P : Nat → Value → Prop} {St : Nat → Shared → Prop}
/-- the loop of set.update over texts -/
theorem loop_texts (W : WalksS prog w A.in1 I fp wr G n P St) (S : Addr) (hSf : S ∉ fp) (xs : List Str) (hsz : xs.length = n) (hn : n + 1 < scanBound)
    (hval : ∀ i v, P i v → ∃ x t, xs[i]? = some x ∧ v = .str x t) : ∀ (k i : Nat) (s : Shared), n - i = k → i ≤ n → St i s →
      s.heap.SetOf (PySem.strKind prog w) S (fun y => (meets (xs.take i)).any (· == y)) (meets (xs.take i)).length →
      (∀ s', Moved (S :: wr) G s s' → s'.heap.SetOf (PySem.strKind prog w) S (fun y => (meets xs).any (· == y)) (meets xs).length → R (.ok (.ret .none)) s') →
      codeAny (model prog w) A (.builtin "set.update.loop" ⟨[.ref S, .ref I], []⟩) R s := by
  have out : S ∉ wr := fun h => hSf (W.sub _ h)
  have sub : ∀ b ∈ wr, b ∈ S :: wr := fun b hb => List.mem_cons_of_mem _ hb
  have stay : ∀ {s s' : Shared} {f : Str → Bool} {m : Nat}, Moved wr G s s' → s.heap.SetOf (PySem.strKind prog w) S f m → s'.heap.SetOf (PySem.strKind prog w) S f m := fun hm h => by
    obtain ⟨o, es, ep, t, ho, r⟩ := h
    exact ⟨o, es, ep, t, hm.heap S _ out ho, r⟩
  intro k
  induction k with
  | zero =>
    intro i s hk hi hst hS hR
    obtain rfl : i = n := by omega
    rw [← hsz, List.take_length] at hS
    refine codeAny_builtin PyProof.Rows.F.entry_set_update_loop ?_
    rw [Around.under_plainId PyProof.Rows.F.plain_set_update_loop _]
    show wpAny _ A.in1 (pyNext (.ref I) >>= _) _ _ s
    exact wpAny_bind (W.done s _ _ hst fun s' hm => wpAny_pure (hR s' (hm.mono sub) (stay hm hS)))
  | succ k ih =>
    intro i s hk hi hst hS hR
    have hlt : i < n := by omega
    refine codeAny_builtin PyProof.Rows.F.entry_set_update_loop ?_
    rw [Around.under_plainId PyProof.Rows.F.plain_set_update_loop _]
    show wpAny _ A.in1 (pyNext (.ref I) >>= _) _ _ s
    refine wpAny_bind (W.item i s _ _ hlt hst fun v s' hP hst' hm => ?_)
    obtain ⟨x, t, hx, rfl⟩ := hval i v hP
    have hS' := stay hm hS
    show wpAny _ A.in1 (holding [Value.str x t] (setAdd S (.str x t)) >>= _) _ _ s'
    refine wpAny_bind (wpAny_holding ?_)
    unfold setAdd
    refine wpAny_holding (wpAny_bind ((PySem.strKind prog w).pyHash (k := x) (strKind_is _ _ _ _) ?_))
    have room : (meets (xs.take i)).length + 1 < scanBound := by
      have h := meets_len (xs.take i) []
      rw [List.length_take] at h
      have h0 : ([] : List Str).length = 0 := rfl
      unfold meets
      omega
    refine wpAny_setAddHashed_of (knd := PySem.strKind prog w) (s := { s' with toks := s'.toks + 1 }) (strKind_is _ _ _ _) rfl hS' room fun h' same new => ?_
    have hSi : h'.SetOf (PySem.strKind prog w) S (fun y => (meets (xs.take (i + 1))).any (· == y)) (meets (xs.take (i + 1))).length :=
      SetOf_congr new (fun y => by rw [meets_step hx, meet1_any]) (by rw [meets_step hx, meet1_len])
    refine wpAny_pure ⟨plainId_quiet PyProof.Rows.F.plain_set_update_loop _, ih (i + 1) _ (by omega) hlt (W.frame _ s' _ _ hst' (Nat.le_succ _) fun b hb o e => ?_) hSi fun s'' hm'' hS'' => ?_⟩
    · rw [same.2 b (fun z : b = S => hSf (by rw [← z]; exact hb))]
      exact e
    · refine hR s'' (Moved.trans W.gtrans ((hm.mono sub).then_heap (Nat.le_succ _) fun b o hb e => ?_) hm'') hS''
      rw [same.2 b (fun z : b = S => hb (by rw [z]; exact List.mem_cons_self))]
      exact e
end
end K43
/-! len(set(names)), names a list or a tuple of a few texts. -/
namespace K43
open PySem PySem.Spec PyProof.Rows

/-- at a stands a list (T = list) or a tuple (T = tuple) of these items -/
def SeqT (T : String) (h : Heap) (a : Addr) (items : Array Value) : Prop := ∃ o, h.get? a = some o ∧ o.cls = .type T ∧ ∃ n, o.data = .seq items n
/-- what set() reads of it -/
structure Fed (T IT : String) : Prop where
  s1 : isSubtype (.type T) (.type "set") = pure false
  s2 : isSubtype (.type T) (.type "frozenset") = pure false
  nd : (Value.type T == Value.type "dict") = false
  go : ∀ {prog : Program} {w : World} {A : Around} {E : Value → Shared → Prop} {s : Shared} {l : Addr} {items : Array Value} {Q : Value → Shared → Prop}, SeqT T s.heap l items →
    Q (.ref s.heap.objs.size) { s with heap := s.heap.push { cls := .type IT, data := .fields #[.ref l, .int 0 0] } } → wpAny (model prog w) A (pyIter (.ref l)) Q E s
  wk : ∀ {prog : Program} {w : World} {A : Around} (_ : A.handled = none) (it l : Addr) (_ : l ≠ it) (items : Array Value), ∃ St : Nat → Shared → Prop,
    WalksS prog w A it [it, l] [it] (fun a b => b = a) items.size (fun i v => items[i]? = some v) St ∧
    ∀ s : Shared, s.heap.get? it = some { cls := .type IT, data := .fields #[.ref l, .int 0 0] } → SeqT T s.heap l items → St 0 s
theorem fed_list : Fed "list" "list_iterator" where
  s1 := PySem.F.sub_list_set
  s2 := PySem.F.sub_list_frozenset
  nd := by decide
  go := fun h q => wpAny_pyIter_list h q
  wk := fun hh it l hne items => ⟨_, (Walks.list hh it l hne items).toS, fun s h1 h2 => ⟨⟨_, h1, rfl, rfl⟩, h2⟩⟩
theorem fed_tuple : Fed "tuple" "tuple_iterator" where
  s1 := PySem.F.sub_tuple_set
  s2 := PySem.F.sub_tuple_frozenset
  nd := by decide
  go := fun h q => wpAny_pyIter_tuple h q
  wk := fun hh it l hne items => ⟨_, (Walks.tuple hh it l hne items).toS, fun s h1 h2 => ⟨⟨_, h1, rfl, rfl⟩, h2⟩⟩

/-- a new set of no items -/
abbrev set0 (led : Bool) : Obj := { cls := .type "set", dict := none, data := .set #[] 0 (.fresh 0 0 led) }
section
variable {prog : Program} {w : World} {A : Around} {E : Value → Shared → Prop} {s : Shared}
/-- set(names) -/
theorem set_texts {T IT : String} (F : Fed T IT) {l : Addr} {items : Array Value} {xs : List Str} {Q : Value → Shared → Prop} (hh : A.handled = none) (hl : SeqT T s.heap l items) (hi : StrsAre items.toList xs) (hb : xs.length + 1 < scanBound)
    (h : ∀ (h' : Heap) (tk : Nat), h'.SetOf (PySem.strKind prog w) s.heap.objs.size (fun y => (meets xs).any (· == y)) (meets xs).length →
      (∀ b o, b < s.heap.objs.size → s.heap.get? b = some o → h'.get? b = some o) → Q (.ref s.heap.objs.size) { s with heap := h', toks := tk }) :
    wpAny (model prog w) A (call (.type "set") [.ref l]) Q E s := by
  have hmade := PySem.F.called_set.made
  have hsub := PySem.F.called_set.sub
  obtain ⟨c, tl, hmro⟩ := PySem.F.called_set.mro
  refine wpAny_call (codeAny_of_tree ?_)
  show wpAny _ _ (callAny (.type "set") _) _ _ _
  refine wpAny_pure ⟨Code.quiet_builtin _ (by decide +kernel), codeAny_builtin PySem.F.entry_type_call ?_⟩
  rw [Around.under_plain (weight_type_call_type "set" [.ref l] []) rfl]
  have ct := PySem.F.typeCall_set_1 (.ref l)
  have c1 := PySem.F.called_set.notType
  have c2 := PySem.F.called_set.canCreate
  repeat (any_goals (first | assumption | wp_step))
  refine codeAny_mono (code_set_new_1 (.ref l) (E := E) (Q₁ := fun p s1 => ∃ led : Bool, p = .ref s.heap.objs.size ∧ s1 = { s with heap := s.heap.push (set0 led) }) fun led => ⟨led, rfl, rfl⟩) fun r s1 hr => ?_
  cases r with
  | error e => exact hr
  | ok fl =>
    cases fl with
    | next => exact hr.elim
    | brk => exact hr.elim
    | cont => exact hr.elim
    | ret obj =>
      obtain ⟨led, rfl, rfl⟩ := hr
      have hS : (s.heap.push (set0 led)).get? s.heap.objs.size = some (set0 led) := Heap.get?_push_size _ rfl
      have hT : Shared.TypeIs { s with heap := s.heap.push (set0 led) } (.ref s.heap.objs.size) "set" := ⟨_, hS, rfl⟩
      have i1 := PySem.F.called_set.init.lookup
      have i2 := PySem.F.called_set.init.bind (.ref s.heap.objs.size)
      repeat (any_goals (first | assumption | wp_step))
      refine codeAny_mono (codeAny_call_builtin (R := wants (fun r s2 => r = .none ∧ ∃ h' tk, s2 = { s with heap := h', toks := tk } ∧ h'.SetOf (PySem.strKind prog w) s.heap.objs.size (fun y => (meets xs).any (· == y)) (meets xs).length ∧
          (∀ b o, b < s.heap.objs.size → s.heap.get? b = some o → h'.get? b = some o)) E) PySem.F.called_set.init.plain PySem.F.entry_set_init (check_set_init_1 hT ?_)) fun r2 s2 hr2 => ?_
      · obtain ⟨ol, hol, hcl, nl, hdl⟩ := hl
        obtain ⟨ocls, odict, odata, oslots⟩ := ol
        simp only at hcl hdl
        subst hcl hdl
        have hol' : (s.heap.push (set0 led)).get? l = some { cls := .type T, dict := odict, data := .seq items nl, slots := oslots } := Heap.get?_push_of_some _ hol
        have f1 := F.s1
        have f2 := F.s2
        have f3 := F.nd
        have hl1 : SeqT T (s.heap.push (set0 led)) l items := ⟨_, hol', rfl, nl, rfl⟩
        unfold Builtin.«set.__init__» noKeywords Builtin.Frozenset.updateFrom
        generalize hPI : pyIter = PI
        wp_walk
        subst hPI
        refine F.go hl1 ?_
        refine wpAny_bind (wpAny_runValue ?_)
        have lt : l < s.heap.objs.size := Heap.lt_size hol
        have h3 : A.in1.in1.in1.handled = none := by simp [hh]
        have nI : l ≠ (s.heap.push (set0 led)).objs.size := by
          rw [Heap.size_push]
          exact Nat.ne_of_lt (Nat.lt_succ_of_lt lt)
        have nS : s.heap.objs.size ∉ [(s.heap.push (set0 led)).objs.size, l] := by
          rw [Heap.size_push]
          simp only [List.mem_cons, List.mem_singleton, List.not_mem_nil, or_false, not_or]
          exact ⟨Nat.ne_of_lt (Nat.lt_succ_self _), Nat.ne_of_gt lt⟩
        have hsz : xs.length = items.size := by rw [← StrsAre.len_eq hi, Array.length_toList]
        obtain ⟨St, W, st0⟩ := F.wk (prog := prog) (w := w) h3 _ l nI items
        refine loop_texts W s.heap.objs.size nS xs hsz (by rw [← hsz]; exact hb) (fun i v hv => strs_get hi i v (by rw [Array.getElem?_toList]; exact hv)) (items.size - 0) 0 _ (by omega) (Nat.zero_le _) (st0 _ (Heap.get?_push_size _ rfl) ?_) ?_ ?_
        · exact ⟨_, Heap.get?_push_of_some _ hol', rfl, nl, rfl⟩
        · exact SetOf_congr ((setObjOf_fresh (knd := PySem.strKind prog w) led).setOf (Heap.get?_push_of_some _ hS) (by unfold scanBound; omega)) (fun _ => rfl) rfl
        · intro s' hm hS'
          obtain ⟨h', g', d', tk', os'⟩ := s'
          obtain rfl : g' = s.gens := hm.gens
          obtain rfl : d' = s.drawn := hm.drawn
          obtain rfl : os' = s.os := hm.os
          show wpAny _ _ _ _ _ _
          refine wpAny_pure ?_
          show wpAny _ _ (ret Value.none) _ _ _
          refine wpAny_pure ⟨rfl, h', tk', rfl, hS', fun b o hlt e => hm.heap b o ?_ (Heap.get?_push_of_some _ (Heap.get?_push_of_some _ e))⟩
          rw [Heap.size_push]
          simp only [List.mem_cons, List.mem_singleton, List.not_mem_nil, or_false, not_or]
          exact ⟨Nat.ne_of_lt hlt, Nat.ne_of_lt (Nat.lt_succ_of_lt hlt)⟩
      · cases r2 with
        | error e => exact hr2
        | ok fl2 =>
          cases fl2 with
          | next => exact hr2.elim
          | brk => exact hr2.elim
          | cont => exact hr2.elim
          | ret r =>
            obtain ⟨rfl, h', tk, rfl, hS', hk'⟩ := hr2
            repeat (any_goals (first | assumption | wp_step))
            exact h _ _ hS' hk'
end
end K43

namespace K43
open PySem PySem.Spec PyProof.Rows L2
/-- len(set(xs)) -/
def tLenSetT (K : PySem.W.Frag) (ta : TE) : TE := fun σ H Q => ta σ H fun x H1 => ∃ (l : Addr) (xs : List Str), x = .ref l ∧ (SqL K H1 l (xs.map V.str) ∨ SqT K H1 l (xs.map V.str)) ∧ xs.length ≤ 1000 ∧ Q (.int ((meets xs).length : Nat)) H1
theorem pe_lenSetT {X : Cx} {a : Expr} {ta : TE} {p p2 q pos : Pos} (hc : X.calm = true) (hg : Gl X "len") (hm : X.mg "len" = none) (hg2 : Gl X "set") (hm2 : X.mg "set" = none) (ha : PE X a ta)
    (na : starEach [a] X.env = (false, eval a X.env) :: starEach [] X.env := by rfl) : PE X (.Call (.Name "len" p) [.Call (.Name "set" p2) [a] [] q] [] pos) (tLenSetT X.K ta) := by
  refine ⟨fun pins s σ H Q I h => ?_⟩
  refine Call_ (ld_blt I hg hm PySem.boot_len ?_)
  refine PyProof.Rows.callWith_builtin1 (PyProof.Rows.args_cons ?_ rfl) rfl rfl
  refine Call_ (ld_blt I hg2 hm2 PyProof.Rows.boot_set ?_)
  refine PyProof.Rows.callWith_type1 (PyProof.Rows.args_cons (thn (ha.run pins s σ H _ I h) fun v s1 ⟨x, H1, I1, r1, q1⟩ => PyProof.Rows.args_nil ?_) na) na rfl
  obtain ⟨l, xs, rfl, hq, h1, q1⟩ := q1
  cases r1
  have few : (meets xs).length ≤ 1000 := by
    have z := meets_len xs []
    have z0 : ([] : List Str).length = 0 := rfl
    unfold meets
    omega
  have room : xs.length + 1 < scanBound := by unfold scanBound; omega
  have fin : ∀ (h' : Heap) (tk : Nat), h'.SetOf (PySem.strKind X.prog X.w) s1.heap.objs.size (fun y => (meets xs).any (· == y)) (meets xs).length → (∀ b o, b < s1.heap.objs.size → s1.heap.get? b = some o → h'.get? b = some o) →
      wpAny (model X.prog X.w) X.A (spliced (backTo pos (starEach [] X.env))) (fun vs s2 => wpAny (model X.prog X.w) X.A (call (.builtin "len") (Value.ref s1.heap.objs.size :: vs)) (EP X pins σ Q) X.xe s2) X.xe { s1 with heap := h', toks := tk } := fun h' tk hS hk => by
    refine PyProof.Rows.args_nil ?_
    obtain ⟨o, es, ep, t, ho, hex, hd, _, _, _, hf, hn⟩ := hS
    have I2 : Inv X pins σ H1 { s1 with heap := h', toks := tk } := I1.kept fun b o e => hk b o (Heap.lt_size e) e
    exact call_len_set ho hex hd hf (by rw [hn] <;> omega) ⟨.int (meets xs).length, H1, I2.tok _, ⟨_, by rw [hn]⟩, q1⟩
  rcases hq with hq | hq
  · obtain ⟨its, r, pl, hz⟩ := I1.list hq
    exact set_texts fed_list (I1.ok.hd hc) pl.isList (by simpa using strsAre_of r) room fun h' tk hS hk => fin h' tk hS hk
  · obtain ⟨its, r, pl, hz⟩ := I1.tuple hq
    exact set_texts fed_tuple (I1.ok.hd hc) pl (by simpa using strsAre_of r) room fun h' tk hS hk => fin h' tk hS hk
end K43
/-! InvalidArgument(name): the class's own __init__ says super().__init__(f"invalid {name}"), then self.name = name. -/
namespace K43
open PySem L2
/-- the i-th statement of the program's top -/
def topS (i : Nat) : Stmt := PySem.Challenge.pw_askedthen_k43_schemas_and_rows.main.body.getD i (.Pass ⟨0, 0, 0, 0⟩)
abbrev sInv : Stmt := inClass (topS 2) 0
end K43
namespace K43
open PySem PySem.W PySem.Calls PyProof.Rows PySem.HandSPX L2
/-- what the written part says of InvalidArgument, at C, of its __init__, at fI, of that one's cell and code -/
structure InvTxt (P : Program) (K : Frag) (mg : Str → Option Value) (C fI : Addr) : Prop where
  gC : mg "InvalidArgument" = some (.ref C)
  cls : ∃ nm q N bs bm sn sub ab col dd k0 k1 k2 k3 k5, K.lookup C = some (excClassObj nm q C N bs bm true sn sub ab col dd k0 k1 k2 k3 k5 "ValueError.__new__") ∧ refsVE bm = true
  sa : findIn K (.ref C) "__setattr__" = some (some (.builtin "object.__setattr__"))
  noN : findIn K (.ref C) "name" = some none
  iC : findIn K (.ref C) "__init__" = some (some (.ref fI))
  tC : typeIn K (.ref fI) = some (.type "function")
  kC : keepIn K (.ref C) = true
  exC : subIn K (.ref C) (.type "BaseException") = some true
  tyC : typeIn K (.ref C) = some (.type "type")
  fn : ∃ (oc : Value) (od : Option Addr) (doc pm : Value) (an : Option Addr) (cda cc : Addr) (ct : Value) (osl : Array (Option Value)) (ccl : Value) (cdd : Option Addr) (vs : Array Value) (ccs : Array (Option Value)) (file : Str) (tf : Tok) (cl : Value) (cld : Option Addr) (csl : Array (Option Value)),
    K.lookup fI = some ⟨oc, od, .func (ksFn "__init__" "InvalidArgument.__init__" (defArgs sInv) (defBody sInv) (defScope sInv) .none .none doc pm an (.ref cda) ct cc), osl⟩ ∧ codeIn K (.ref cda) "InvalidArgument.__init__" = true ∧
    K.lookup cda = some ⟨ccl, cdd, .fields vs, ccs⟩ ∧ vs[2]? = some (.str file tf) ∧ ((P.main.file : Str) == file) = true ∧ K.lookup cc = some ⟨cl, cld, .cell (some (.ref C)), csl⟩
  sup : ks_superIn K C C "__init__" = some (some (.builtin "ValueError.__init__"))
  sb : subIn K (.ref C) (.type "ValueError") = some true
  ms : mroIn K C (.ref C) = some true
  op : nsIn K cStatics "thirdparty.any" = some none
  su : mg "super" = none
  tp : (P.main.scope.names.lookup ("super" : Str)).isSome = false
/-- what __init__ leaves of a fresh exception at x -/
structure InvEnd (h h' : Heap) (x C dx t1 : Addr) (v : Value) : Prop where
  keep : ∀ b o, b ≠ x → h.get? b = some o → h'.get? b = some o
  obj : h'.get? x = some { cls := .ref C, dict := some dx, data := .fields #[.ref t1, .none, .none, .none, .bool false, .none] }
  dbig : h.objs.size ≤ dx
  dne : dx ≠ x
  ns : h'.Ns1 dx (fun y => if y = "name" then some v else none)
section
variable {P : Program} {w : World} {A : Around} {E : Value → Shared → Prop} {h : Heap} {g : Array GenState} {d : Drawn} {t : Nat} {os : OsState}
/-- the bound ValueError.__init__ called -/
theorem call_bound {nm q : Str} {C N : Addr} {bs bm : List Value} {sn : List Str} {sub : List Value} {ab : Bool} {col : Option Bool} {dd : Option Addr} {k0 k1 k2 k3 k5 : Option Value} {u e t0 : Addr} {rest : List Value} {Q : Value → Shared → Prop}
    (hC : h.get? C = some (excClassObj nm q C N bs bm true sn sub ab col dd k0 k1 k2 k3 k5 "ValueError.__new__")) (he : h.get? e = some (excO C t0)) (hu : h.get? u = some (kxs_mw "ValueError.__init__" e)) (hrest : rest.length ≤ sizeLine)
    (hq : ∀ h' t1, (∀ b o, b ≠ e → h.get? b = some o → h'.get? b = some o) → h'.get? e = some (excO C t1) → Q .none ⟨h', g, d, t, os⟩) :
    wpAny (model P w) A (call (.ref u) rest) Q E ⟨h, g, d, t, os⟩ := by
  refine wpAny_call (codeAny_of_tree ?_)
  show wpAny _ A.in1 (callAny (.ref u) ⟨rest, []⟩) _ _ _
  simp only [callAny]
  refine wpAny_bind (wpAny_load hu ?_)
  simp only [kxs_mw, show (Value.type "method-wrapper" == Value.type "method" || Value.type "method-wrapper" == Value.type "builtin_function_or_method" || Value.type "method-wrapper" == Value.type "method-wrapper") = true by decide, if_true]
  refine W.KFB.if_so (by decide) ?_
  refine wpAny_bind (ESX.check_bound F.excBase_ValueError hC he rfl ?_)
  refine wpAny_bind (wpAny_pure (wpAny_pure ?_))
  refine ⟨Code.quiet_builtin _ (by decide +kernel), codeAny_builtin F.excBase_ValueError.initEntry ?_⟩
  rw [Around.under_plainId F.excBase_ValueError.init.plain _]
  wp_walk
  refine hq _ h.objs.size (fun b o hb ho => ?_) ?_
  · rw [Heap.get?_update_other _ _ (Ne.symm hb)]
    exact Heap.get?_push_of_some _ ho
  · rw [Heap.get?_update_self _ (Heap.get?_push_of_some _ he) rfl]
    rfl
end
section
variable {P : Program} {w : World} {A : Around} {R : Result → Shared → Prop} {s : Shared} {K : Frag} {mg : Str → Option Value} {C fI : Addr}
theorem ld_loc {M : Model} {E : Value → Shared → Prop} {env : Env} {m : Str → Option Value} {x : Str} {pos : Pos} {v : Value} {Q : Value → Shared → Prop} (hn : s.heap.Ns env.locals m) (hv : m x = some v) (h : Q v s)
    (hk : env.scope.kind = .function := by rfl) (hl : env.kindOf x = some .local := by rfl) (hd : (x == ("__debug__" : Str)) = false := by decide) : wpAny M A (eval (.Name x pos) env) Q E s := wpAny_Name (wpAny_loadName_local hk hl hn hv h) hd
theorem in_but {h h' : Heap} {x : Addr} (X : K.In h) (hx : K.lookup x = none) (k : ∀ b o, b ≠ x → h.get? b = some o → h'.get? b = some o) : K.In h' := fun a o e =>
  k a o (fun z => by rw [z, hx] at e; cases e) (X a o e)
theorem sInv_nocell : ∀ y ∈ (defScope sInv).names, y.2 ≠ .cell := by decide +kernel
theorem sInv_self : (defScope sInv).names.lookup ("self" : Str) = some .local := by decide +kernel
theorem sInv_name : (defScope sInv).names.lookup ("name" : Str) = some .local := by decide +kernel
theorem inv_init (T : InvTxt P K mg C fI) {x t0 : Addr} {z : Str} {tz : Tok} (X : K.In s.heap) (G : s.heap.Ns mainGlobals mg) (B : ∃ mb, s.heap.Ns builtinsNs mb ∧ mb "super" = some (.type "super")) (hlim : s.heap.NoLimit)
    (hx : s.heap.get? x = some (excO C t0)) (hnx : K.lookup x = none) (hroom : A.depth < recursionLimit) (hz : z.length ≤ 1000)
    (hq : ∀ h' tk dx t1, InvEnd s.heap h' x C dx t1 (.str z tz) → R (.ok (.ret .none)) { s with heap := h', toks := tk }) :
    codeAny (model P w) A (.call (.ref fI) ⟨[.ref x, .str z tz], []⟩) R s := by
  obtain ⟨oc, od, doc, pm, an, cda, cc, ct, osl, ccl, cdd, vs, ccs, file, tf, cl, cld, csl, ho, hcd, hcda, hvs, hfile, hcc⟩ := T.fn
  obtain ⟨nm, q, N, bs, bm, sn, sub, ab, col, dd, k0, k1, k2, k3, k5, hC, hbm⟩ := T.cls
  obtain ⟨mb, B, hsu⟩ := B
  have hcl : clsIn K C = some { name := nm, bases := bs, mro := .ref C :: bm, ns := N, qualname := q, hasDict := true, slotNames := sn, subclasses := sub, abstract := ab, collection := col, hasDel := false } := by unfold clsIn; rw [hC] <;> rfl
  refine ks_codeAny_call_defAt (fd := ksFn "__init__" "InvalidArgument.__init__" (defArgs sInv) (defBody sInv) (defScope sInv) .none .none doc pm an (.ref cda) ct cc) (body := defBody sInv) (binds := [("self", .ref x), ("name", .str z tz)])
    hroom (X _ _ ho) rfl hlim (codeRec_of X hcd) rfl (BindsTo.of_eq (by first | rfl | with_unfolding_all rfl)) sInv_nocell (fun y hy => ?_) (fun h1 hns k => ?_) rfl rfl rfl
  · rcases List.mem_cons.mp hy with rfl | hy
    · exact sInv_self
    · rcases List.mem_cons.mp hy with rfl | hy
      · exact sInv_name
      · cases hy
  have X1 : K.In h1 := X.keeps k
  have hx1 := k _ _ hx
  obtain ⟨hp, g, d, t, os⟩ := s
  -- super().__init__(f"invalid {name}")
  refine ks_wpAt_execs_cons ?_
  refine ks_wpAt_Expr_any ?_
  refine ks_wpAt_MethodCall ?_
  refine ks_wpAt_super_base rfl rfl (by decide) rfl (X1 _ _ ho) rfl rfl rfl (X1 _ _ hcda) rfl hvs hfile T.tp ?_
  refine ks_loadName_global rfl rfl (loadGlobal_builtin (G.keeps k) T.su (B.keeps k) hsu ⟨rfl, ?_⟩)
  refine wpAny_loadName_free rfl rfl rfl ⟨_, X1 _ _ hcc, rfl⟩ ?_
  refine wpAny_loadName_local rfl rfl hns rfl ?_
  refine ks_wpAny_isType_cls (X1 _ _ hC) rfl ⟨rfl, ?_⟩
  refine ks_wpAny_call_super (X1 _ _ hC) rfl hx1 rfl (fun c e => by cases e) (looks_mroIn X1 T.ms) (fun h2 hso k2 => ?_)
  have X2 : K.In h2 := X1.keeps k2
  have hx2 := k2 _ _ hx1
  have sup := T.sup
  unfold ks_superIn at sup
  rw [hcl] at sup
  have hxC : x ≠ C := fun e => by rw [e, hC] at hnx; cases hnx
  have I2 : InstAt h2 x (excO C t0) C none := ⟨hx2, rfl, rfl, trivial⟩
  refine kxs_getMethod kxs_ValueError hso (looks_opaque X2 T.op) (l₀ := .ref C :: bm) (fun A Q E s k q => wpAny_bind ((looks_clsIn X2 hcl) A _ E s k (wpAny_pure q))) rfl X2 sup (I2.type.andThen (looks_subIn X2 T.sb)) hxC (by decide) ?_
  have k3 : ∀ b o, h2.get? b = some o → (h2.push (kxs_mw "ValueError.__init__" x)).get? b = some o := fun b o e => Heap.get?_push_of_some _ e
  have hu3 : (h2.push (kxs_mw "ValueError.__init__" x)).get? h2.objs.size = some (kxs_mw "ValueError.__init__" x) := Heap.get?_push_size _ rfl
  have hns3 := (hns.keeps k2).keeps k3
  refine kxs_callWith (i := "ValueError.__init__") (u := h2.objs.size) (x := x) rfl (evalArgs_plain (spliced_cons ?_))
  rw [if_neg Bool.false_ne_true]
  refine wpAny_JoinedStr ?_
  refine Calls.Constant_str ⟨_, _, rfl, by decide, ?_⟩
  have hlen : ((Str.empty ++ ("invalid " : Str)) ++ z).length ≤ sizeLine := by
    have e1 : (Str.empty ++ ("invalid " : Str)).length = 8 := by decide
    have e2 : ((Str.empty ++ ("invalid " : Str)) ++ z).length = (Str.empty ++ ("invalid " : Str)).length + z.length := by
      show (_ ++ _ : Array Nat).size = _
      rw [Array.size_append]
      rfl
    rw [e2, e1, sizeLine_eq]
    omega
  refine wpAny_FormattedValue_plain (ld_loc hns3 rfl ?_)
  refine wpAny_mono (Q := fun v s1 => ∃ t1 t2, v = .str z t1 ∧ s1 = ⟨h2.push (kxs_mw "ValueError.__init__" x), g, d, t2, os⟩) (E := fun _ _ => False) (wpAny_formatField_str ⟨_, _, rfl, rfl⟩ ⟨_, _, rfl, rfl⟩ (by rw [sizeLine_eq]; omega)) (fun v s1 hv => ?_) fun _ _ z => z.elim
  obtain ⟨t1, t2, rfl, rfl⟩ := hv
  refine ⟨_, _, rfl, hlen, hlen, ?_⟩
  refine spliced_nil ⟨hu3, ?_⟩
  have X3 : K.In (h2.push (kxs_mw "ValueError.__init__" x)) := X2.keeps k3
  refine call_bound (X3 _ _ hC) (k3 _ _ hx2) hu3 (by show 1 ≤ sizeLine; rw [sizeLine_eq]; decide) (fun h4 u4 k4 hx4 => ?_)
  -- self.name = name
  have X4 : K.In h4 := in_but X3 hnx k4
  have xL : hp.objs.size ≠ x := Nat.ne_of_gt (Heap.lt_size hx)
  have hns4 := hns3.at fun o e => k4 _ o xL e
  show PySem.wpAt _ _ _ (execs _ _) _ _ _
  refine wpAt_of_wpAny (wpAny_execs_cons (plainObj_wpAny_Assign_Attribute ?_))
  refine ld_loc hns4 rfl (ld_loc hns4 rfl ?_)
  refine set_plain X4 (ox := excO C u4) (od := none) ⟨hx4, rfl, rfl, trivial⟩ T.sa ?_
  refine exc_osa X4 hx4 hcl (show refsVE (.ref C :: bm) = true from hbm) rfl T.noN (fun h5 tk5 dx k5 dn dne hx5 hn5 => ?_)
  show wpAny _ _ (execs _ _) _ _ _
  refine wpAny_execs_nil (hq h5 tk5 dx u4 ⟨fun b o hb e => k5 b o hb (k4 b o hb (k3 b o (k2 b o (k b o e)))), hx5, ?_, dne, hn5⟩)
  have l1 : hp.objs.size < h4.objs.size := hns4.lt
  exact Nat.le_of_lt (Nat.lt_of_lt_of_le l1 dn)
end
end K43
/-! raise InvalidArgument(e) as a rule; isinstance of the caught error. -/
namespace K43
open PySem PySem.W PySem.Calls PyProof.Rows PySem.HandSPX L2
/-- a made InvalidArgument -/
structure InvMade (h h' : Heap) (e C d : Addr) (v : Value) : Prop where
  keep : ∀ b o, h.get? b = some o → h'.get? b = some o
  new : h.objs.size ≤ e
  obj : ∃ oe vs, h'.get? e = some oe ∧ oe.cls = .ref C ∧ oe.dict = some d ∧ oe.data = .fields vs ∧ vs[1]? = some .none
  dbig : h.objs.size ≤ d
  dne : d ≠ e
  ns : h'.Ns1 d (fun y => if y = "name" then some v else none)
section
variable {P : Program} {w : World} {A : Around} {R : Result → Shared → Prop} {s : Shared} {K : Frag} {mg : Str → Option Value} {C fI : Addr}
theorem inv_made (T : InvTxt P K mg C fI) {z : Str} {tz : Tok} (X : K.In s.heap) (G : s.heap.Ns mainGlobals mg) (B : ∃ mb, s.heap.Ns builtinsNs mb ∧ mb "super" = some (.type "super")) (hlim : s.heap.NoLimit) (hroom : A.depth + 1 < recursionLimit) (hz : z.length ≤ 1000)
    (hq : ∀ h' tk e d, InvMade s.heap h' e C d (.str z tz) → R (.ok (.ret (.ref e))) { s with heap := h', toks := tk }) :
    codeAny (model P w) A (.call (.ref C) ⟨[.str z tz], []⟩) R s := by
  obtain ⟨nm, q, N, bs, bm, sn, sub, ab, col, dd, k0, k1, k2, k3, k5, hC, hbm⟩ := T.cls
  obtain ⟨mb, B, hsu⟩ := B
  obtain ⟨hp, g, dr, tk, os⟩ := s
  have k : ∀ b o, hp.get? b = some o → ((hp.push (kdv_tup [.str z tz])).push (excO C hp.objs.size)).get? b = some o := fun b o e => Heap.get?_push_of_some _ (Heap.get?_push_of_some _ e)
  have hget : ((hp.push (kdv_tup [.str z tz])).push (excO C hp.objs.size)).get? (hp.objs.size + 1) = some (excO C hp.objs.size) := by heap_get
  have hnx : K.lookup (hp.objs.size + 1) = none := by
    cases e : K.lookup (hp.objs.size + 1) with
    | none => rfl
    | some o =>
      have y : hp.get? (hp.objs.size + 1) = some o := X _ _ e
      exact absurd (Nat.lt_of_succ_lt (Heap.lt_size y)) (Nat.lt_irrefl _)
  refine call_own F.excBase_ValueError (fun X => refsVE_contains X bm hbm) (X _ _ hC) (looks_findIn X T.iC) (fun self => bind_fn X self T.tC) (by show 1 ≤ sizeLine; rw [sizeLine_eq]; decide) ?_
  refine inv_init (s := ⟨(hp.push (kdv_tup [.str z tz])).push (excO C hp.objs.size), g, dr, tk, os⟩) T (X.keeps k) (G.keeps k) ⟨mb, B.keeps k, hsu⟩ (hlim.keeps k) hget hnx ?_ hz fun h' tk' dx t1 ⟨k', hx, dn, dne, hns⟩ => ?_
  · show A.depth + 1 < recursionLimit
    exact hroom
  · have old : ∀ b o, hp.get? b = some o → h'.get? b = some o := fun b o e => k' b o (Nat.ne_of_lt (Nat.lt_succ_of_lt (Heap.lt_size e))) (k b o e)
    have y : hp.objs.size + 1 + 1 ≤ dx := by
      have q := dn
      rw [Heap.size_push, Heap.size_push] at q
      exact q
    exact ⟨rfl, hq h' tk' (hp.objs.size + 1) dx ⟨old, Nat.le_succ _, ⟨_, _, hx, rfl, rfl, rfl, rfl⟩, Nat.le_trans (Nat.le_trans (Nat.le_succ _) (Nat.le_succ _)) y, dne, hns⟩⟩
end
end K43
namespace K43
open PySem PySem.Spec PyProof.Rows L2
theorem relO_name {v : V} {v' : Value} (r : RelV v v') (f : Str) : RelO (List.lookup f [(("name" : Str), v)]) (if f = "name" then some v' else none) := by
  by_cases hw : f = "name"
  · subst hw
    rw [if_pos rfl]
    have q : List.lookup ("name" : Str) [(("name" : Str), v)] = some v := by simp [List.lookup]
    rw [q]
    exact r
  · rw [if_neg hw]
    have qw : (f == ("name" : Str)) = false := by simpa using hw
    have q2 : List.lookup f [(("name" : Str), v)] = none := by simp [List.lookup, qw]
    rw [q2]
    trivial
section
variable {X : Cx} {C fI : Addr}
/-- InvalidArgument(e), e a text -/
def tMkInv (C : Addr) (ta : TA) : L2.St → Hp → XK → Prop := fun σ H Q => ta σ H fun vs H1 => ∃ z : Str, vs = [.str z] ∧ z.length ≤ 1000 ∧ ∀ d, H1 d = none → Q (.ref C) (some d) (upd H1 d (.xd [(("name" : Str), .str z)]))
theorem pmk_inv {a : Expr} {ta : TA} {p pos : Pos} {k : Nat} (T : InvTxt X.prog X.K X.mg C fI) (hr : Room k X.A) (ha : PA X [a] ta) (hg : Gl X "InvalidArgument" := by rfl)
    (he : starEach (a :: []) X.env = (false, eval a X.env) :: starEach [] X.env := by rfl) (hpl : (backTo pos (starEach [] X.env)).any (·.1) = false := by rfl) :
    PMk X (.Call (.Name "InvalidArgument" p) [a] [] pos) (tMkInv C ta) := by
  intro pins s σ H Q I h
  refine wpAny_Call_Name_kw (ld_glob I hg T.gC ?_)
  refine PySem.W.callWith_K (h₀ := X.base) I.ok.mod.kin T.kC (thn (ha.run pos pins s σ H _ I h) fun us s1 hh => ?_) he hpl
  obtain ⟨vs, H1, I1, r1, z, ev, hz, q1⟩ := hh
  subst ev
  refine ⟨I1.kIn, ?_⟩
  cases r1 with
  | cons rv rn =>
    rename_i v' us'
    cases rn
    obtain ⟨tz, rfl⟩ := rv
    show wpAny _ _ (call (.ref C) [.str z tz]) _ _ _
    have hlim := I1.nolimit
    obtain ⟨mb, b1, b2⟩ := I1.mod.blt
    have B : ∃ mb, s1.heap.Ns builtinsNs mb ∧ mb "super" = some (.type "super") := ⟨mb, b1.keeps I1.bk, (b2 _ (by decide)).trans (by first | rfl | kernel_rfl)⟩
    have G := I1.mod.glob.keeps I1.bk
    obtain ⟨hp, g, dr, tk, os⟩ := s1
    refine wpAny_call (inv_made T I1.kIn G B hlim (by have := hr.dp; omega) hz fun h' tk' e d M => ?_)
    show MkP X pins σ Q (.ref e) ⟨h', g, dr, tk', os⟩
    obtain ⟨oe, fv, hoe, hc, hd, hdat, h1⟩ := M.obj
    have hns := M.ns
    obtain ⟨G', g1, g2⟩ := restrict h' fun b => decide (b ≠ e)
    have gk : ∀ b, b ≠ e → G'.get? b = h'.get? b := fun b hb => g1 b (decide_eq_true hb)
    have ge : G'.get? e = none := g2 e (by simp)
    have old : ∀ b o, hp.get? b = some o → G'.get? b = some o := fun b o q => (gk b (Nat.ne_of_lt (Nat.lt_of_lt_of_le (Heap.lt_size q) M.new))).trans (M.keep b o q)
    have ob : ObjOk X.prog X.w (upd H1 d (.xd [(("name" : Str), .str z)])) G' d (.xd [(("name" : Str), .str z)]) :=
      ⟨_, hns.at (fun o q => (gk d M.dne).trans q), fun f => relO_name (v := .str z) ⟨tz, rfl⟩ f⟩
    have J : Inv X pins σ (upd H1 d (.xd [(("name" : Str), .str z)])) ⟨G', g, dr, tk', os⟩ := I1.laid (t' := tk') old M.dbig ob
    refine ⟨e, oe, fv, ⟨G', g, dr, tk', os⟩, _, .ref C, some d, rfl, J, fun b o q => ?_, ge, hoe, ⟨hc, hd⟩, hdat, h1, ?_, rfl, I1.bare, raises_own T.exC T.tyC, q1 d (I1.hok.fresh M.dbig)⟩
    · by_cases hb : b = e
      · have q' : G'.get? b = some o := q
        rw [hb, ge] at q'
        cases q'
      · exact (gk b hb).symm.trans q
    · rw [upd_ne (Ne.symm M.dne)]
      exact I1.hok.fresh M.new
/-- raise InvalidArgument(e) -/
def tRaiseInv (C : Addr) (W : WX) (ta : TA) : TS := fun _ σ H => tMkInv C ta σ H fun cls d H' => W cls d σ H'
theorem ps_raiseInv {a : Expr} {ta : TA} {W : WX} {p pos pos2 : Pos} {k : Nat} (hc : X.calm = true) (T : InvTxt X.prog X.K X.mg C fI) (hr : Room k X.A) (tk : Takes X W) (ha : PA X [a] ta) (hg : Gl X "InvalidArgument" := by rfl)
    (he : starEach (a :: []) X.env = (false, eval a X.env) :: starEach [] X.env := by rfl) (hpl : (backTo pos (starEach [] X.env)).any (·.1) = false := by rfl) :
    PS X (.Raise (some (.Call (.Name "InvalidArgument" p) [a] [] pos)) none pos2) (tRaiseInv C W ta) := ps_raise hc tk (pmk_inv T hr ha hg he hpl)
/-- isinstance(e, c), e the exception that the suite holds, with a dict of its own -/
theorem call_isED {a D dd : Addr} {oe : Obj} {pn : List (Addr × Obj)} (C : ExcC X.K D) (hz : Zc (.ref D) (some dd) oe) (hf : ∃ vs, oe.data = .fields vs) : CallR (X.suite a ((a, oe) :: pn)) (.builtin "isinstance") (fun xs H Q => (∃ fs, H dd = some (.xd fs)) ∧ rIsE X.K D a xs H Q) := by
  intro pins s σ H xs us Q I r h
  obtain ⟨⟨fs, hd⟩, c, cv, b, rfl, hcv, e, q⟩ := h
  cases r with
  | cons rx rr =>
    cases rr with
    | cons rt rr =>
      cases rr
      cases rx
      have ec := hcv _ rt
      subst ec
      obtain ⟨hget, _⟩ := I.pin (a, oe) (List.mem_append.mpr (.inl List.mem_cons_self))
      obtain ⟨vs, hv⟩ := hf
      have hx : ObjOk X.prog X.w H s.heap dd (.xd fs) := I.hok dd _ hd
      obtain ⟨mA, hns, hr⟩ := hx
      obtain ⟨od, ho, hl⟩ := lookIn_ns hns
      have J : PySem.W.InstAt s.heap a oe D (some od) := ⟨hget, hz.1, by unfold PySem.W.notCls; rw [hv] <;> rfl, by rw [hz.2]; exact ho⟩
      have hcl : (PySem.W.clsIn X.K D).isSome = true := by
        obtain ⟨cd, hc, _⟩ := PySem.W.any_some C.hd
        rw [hc]
        rfl
      exact PySem.W.kia_one (PySem.W.kitx_exc hcl C.hg C.hk C.hs C.ha C.hn C.ht C.hm) I.kIn J e (fun z => nomatch z) fun tk => ⟨.bl b, H, I.kept (t' := tk) fun _ _ z => z, rfl, q⟩
end
end K43
/-! enumerate(a tuple) in a for; x is True, x is False of any x. -/
namespace K43
open PySem PySem.Spec PyProof.Rows
section
open AutoSeq1 (wpAny_loadPart')
/-- enumerate.__new__ over a tuple -/
theorem enum_newT (l : Addr) (items : Array Value) (n : Nat) (dct : Option Addr) (sl : Array (Option Value)) :
    Meets (Builtin.«enumerate.__new__» ⟨[.type "enumerate", .ref l], []⟩) (fun _ R s => s.heap.get? l = some { cls := .type "tuple", dict := dct, data := .seq items n, slots := sl } ∧
      R (.ok (.ret (.ref (s.heap.push { cls := .type "tuple_iterator", data := .fields #[.ref l, .int 0 0] }).objs.size)))
        { s with heap := (s.heap.push { cls := .type "tuple_iterator", data := .fields #[.ref l, .int 0 0] }).push { cls := .type "enumerate", data := .fields #[.none, .bool false, .ref s.heap.objs.size, rawInt 0, .none, .none] } }) :=
  .of_wp fun prog w A R s h => by
    obtain ⟨hp, g, d, tk, os⟩ := s
    obtain ⟨hl, h⟩ := h
    have hsub := sub_enumerate
    have hL : Heap.IsTuple (Shared.heap ⟨hp, g, d, tk, os⟩) l items := ⟨_, hl, rfl, n, rfl⟩
    wp_walk using wpAny_loadPart' hl
    refine wpAny_stack_any fun st => wpAny_pure ?_
    split
    · rename_i c _ _ _ _ _
      cases (c == Value.type "enumerate") <;> (wp_walk using wpAny_loadPart' hl, wpAny_pyIter_tuple hL; exact ⟨_, rfl, h⟩)
    · wp_walk using wpAny_loadPart' hl, wpAny_pyIter_tuple hL
      exact ⟨_, rfl, h⟩
end
section
variable {prog : Program} {w : World} {A : Around} {E : Value → Shared → Prop} {s : Shared}
theorem call_enumT {l : Addr} {items : Array Value} {Q : Value → Shared → Prop} (hL : s.heap.IsTuple l items)
    (h : ∀ h', IsEnum h' (s.heap.objs.size + 1) s.heap.objs.size 0 .none → h'.IsTupleIter s.heap.objs.size l 0 → h'.objs.size = s.heap.objs.size + 2 →
      (∀ b o, s.heap.get? b = some o → h'.get? b = some o) → Q (.ref (s.heap.objs.size + 1)) { s with heap := h' }) :
    wpAny (model prog w) A (call (.type "enumerate") [.ref l]) Q E s := by
  obtain ⟨⟨c, dct, dt, sl⟩, hl, hc, n, hd⟩ := hL
  replace hc : c = .type "tuple" := hc
  replace hd : dt = .seq items n := hd
  subst hc hd
  refine callType_new F.called_enumerate (by decide) (F.typeCall_enumerate_1 _) (F.newCall_enumerate_1 _) (fun obj => F.args_object_init_2 obj _) F.entry_enumerate_new (enum_newT l items n dct sl) ⟨hl, ?_⟩
  have hz : (s.heap.push { cls := .type "tuple_iterator", data := .fields #[.ref l, .int 0 0] }).objs.size = s.heap.objs.size + 1 := Heap.size_push ..
  show _ ∧ _
  rw [hz]
  have he : IsEnum ((s.heap.push { cls := .type "tuple_iterator", data := .fields #[.ref l, .int 0 0] }).push { cls := .type "enumerate", data := .fields #[.none, .bool false, .ref s.heap.objs.size, rawInt 0, .none, .none] }) (s.heap.objs.size + 1) s.heap.objs.size 0 .none := by
    have q := Heap.get?_push_size (s.heap.push { cls := .type "tuple_iterator", data := .fields #[.ref l, .int 0 0] }) (o := { cls := .type "enumerate", data := .fields #[.none, .bool false, .ref s.heap.objs.size, rawInt 0, .none, .none] }) rfl
    rw [hz] at q
    exact q
  exact ⟨⟨_, he, rfl⟩, h _ he ⟨_, Heap.get?_push_of_some _ (Heap.get?_push_size _ rfl), rfl, rfl⟩ (by rw [Heap.size_push, hz]) fun b o x => Heap.get?_push_of_some _ (Heap.get?_push_of_some _ x)⟩
end
end K43
namespace K43
open PySem PySem.Spec PyProof.Rows L2
/-- the tuple at a at each turn, each item in a new pair -/
def Itet (K : PySem.W.Frag) (a : Addr) : It :=
  ⟨fun i H => ∃ (xs : List V) (x : V), SqT K H a xs ∧ xs[i]? = some x, fun i H v H' => ∃ T x, v = .ref T ∧ H T = none ∧ H' = upd H T (.tup [.int (i : Nat), x]) ∧ ∀ xs, SqT K H a xs → xs[i]? = some x, fun i H => ∃ xs : List V, SqT K H a xs ∧ xs.length ≤ i⟩
theorem turn_enumT {P : Program} {w : World} {K : PySem.W.Frag} {elts : List Expr} {kk : Nat} {tpos : Pos} (a e it : Addr) :
    Turn P w K (.Tuple elts kk tpos) (Itet K a) [e, it] e (fun i h => (∃ old, IsEnum h e it ((i : Nat) : Int) old) ∧ h.IsTupleIter it a i ∧ e ≠ it ∧ a ≠ it ∧ a ≠ e) where
  mem := by simp
  obj := fun i h st b hb => by
    obtain ⟨⟨old, he⟩, ⟨o, ho, hc, hd⟩, _⟩ := st
    have e' : b = e ∨ b = it := by simpa using hb
    rcases e' with z | z
    · rw [z]
      exact ⟨_, he, fun v q => nomatch q⟩
    · rw [z]
      exact ⟨o, ho, fun v q => by rw [hd] at q; cases q⟩
  keep := fun i h h' st k => let ⟨⟨old, he⟩, hi, hne⟩ := st; ⟨⟨old, k e (by simp) _ he⟩, hi.at fun o q => k it (by simp) o q, hne⟩
  item := by
    intro X hP hw hK hc i pins s σ H E I hf st hg
    subst hP hw hK
    obtain ⟨⟨old, he⟩, hit, hne, ha, ha2⟩ := st
    obtain ⟨xs, x, hq, hx⟩ := hg
    obtain ⟨its, rv, p, hz⟩ := I.tuple hq
    obtain ⟨u, hu, ru⟩ := rv.get hx
    have hel : e < s.heap.objs.size := Heap.lt_size he
    have hil : it < s.heap.objs.size := by obtain ⟨_, q, _⟩ := hit; exact Heap.lt_size q
    have hi : i < its.toArray.size := by
      rw [List.size_toArray]
      exact (List.getElem?_eq_some_iff.mp hu).1
    have hef : e ∉ [it, a] := by
      simp only [List.mem_cons, List.mem_singleton, List.not_mem_nil, or_false, not_or]
      exact ⟨hne, fun z => ha2 z.symm⟩
    have hh : X.A.in1.handled = none := (show X.A.in1.handled = X.A.handled from rfl).trans (I.ok.hd hc)
    refine wpAny_pyNext_enum_itemD (Draws.tuple hh it a ha its.toArray) he ⟨hit, p⟩ hi hne hef fun y h' tk hy ho hst' hT hsz hk => ?_
    have ey : y = u := by
      have q : its.toArray[i]? = some u := by simpa using hu
      exact Option.some.inj (hy.symm.trans q)
    subst ey
    have hit' := hst'.1
    refine ⟨_, rfl, wpAny_letOwnedTupleGo_enum (s := { s with heap := h', toks := tk + 1 }) ho fun h'' he' sb => ?_⟩
    have hT2 : h''.get? s.heap.objs.size = some { cls := .type "tuple", data := .seq #[.int i tk, y] } := (sb.2 _ (Nat.ne_of_gt hel)).trans hT
    have new : ObjOk X.prog X.w (upd H s.heap.objs.size (.tup [.int (i : Nat), x])) h'' s.heap.objs.size (.tup [.int (i : Nat), x]) :=
      ⟨by show 2 ≤ sizeLine; decide, [.int i tk, y], .cons ⟨_, rfl⟩ (.cons ru .nil), ⟨_, hT2, rfl, _, rfl⟩⟩
    have I1 : Inv X pins σ (upd H s.heap.objs.size (.tup [.int (i : Nat), x])) { s with heap := h'', toks := tk + 1 } :=
      I.turnedNew (ch := [e, it]) (fun b ob hb q => (sb.2 b (fun z => hb (by simp [z]))).trans (hk b ob (fun z => hb (by simp [z])) (fun z => hb (by simp [z])) q)) hf (Nat.le_refl _) new
    refine ⟨.ref s.heap.objs.size, _, I1, rfl, ⟨_, x, rfl, I.hok.fresh (Nat.le_refl _), rfl, fun ys hy => by rw [I.tuple_inj hy hq]; exact hx⟩, ⟨⟨y, ?_⟩, hit'.at fun o q => (sb.2 it (Ne.symm hne)).trans q, hne, ha, ha2⟩, fun b hb => ?_⟩
    · have e1 : ((i + 1 : Nat) : Int) = (i : Int) + 1 := by omega
      rw [e1]
      exact he'
    · have hb' : b < s.heap.objs.size := by
        have e' : b = e ∨ b = it := by simpa using hb
        rcases e' with z | z
        · rw [z]; exact hel
        · rw [z]; exact hil
      rw [upd_ne (Nat.ne_of_lt hb')]
      exact (hf b hb).1
  done := by
    intro X hP hw hK hc i pins s σ H E I hf st hg
    subst hP hw hK
    obtain ⟨⟨old, he⟩, hit, hne, ha, ha2⟩ := st
    obtain ⟨xs, hq, hx⟩ := hg
    obtain ⟨its, rv, p, hz⟩ := I.tuple hq
    obtain ⟨f0, f1, f2, f3, f4, f5⟩ := hf it (by simp)
    have hl := rv.length
    have hh : X.A.in1.handled = none := (show X.A.in1.handled = X.A.handled from rfl).trans (I.ok.hd hc)
    have hT : s.TypeIs (.ref e) "enumerate" := ⟨_, he, rfl⟩
    unfold pyNext
    refine wpAny_bind (wpAny_attempt (wpAny_callSpecial?_slot (name := Str.ofString "__next__") hT F.slot_enumerate_next (wpAny_call_entry F.slot_enumerate_next hT F.entry_enumerate_next ?_ (F.args_enumerate_next_1 _))))
    show wpAny _ _ (field (.ref e) 2 >>= _) _ _ _
    refine wpAny_bind (wpAny_field he rfl (x := .ref it) rfl ?_)
    refine wpAny_bind (wpAny_nextOf_tuple_end hh hit p (by simp; omega) fun h' x eb hx' => ?_)
    obtain ⟨o, ho, hcl⟩ := hx'
    refine wpAny_bind (wpAny_isInstance (T := "StopIteration") (b := true) ⟨o, ho, hcl⟩ isSubtype_stop ?_)
    exact wpAny_pure ⟨rfl, I.turned (t' := s.toks) (fun b o hb q => eb b o hb q) f0 f1 f3 f4 f5⟩
  self := fun A i s Q E st h => let ⟨⟨_, he⟩, _⟩ := st; wpAny_pyIter_enum he h
def iEnumT (K : PySem.W.Frag) (ta : TA) : TI := fun σ H R => ta σ H fun vs H1 => ∃ a xs, vs = [.ref a] ∧ SqT K H1 a xs ∧ R (Itet K a) H1
/-- for i, x in enumerate(t), t a tuple -/
theorem pi_enumT {X : Cx} {e : Expr} {ta : TA} {p pos tpos : Pos} {elts : List Expr} {kk : Nat} (hg : Gl X "enumerate") (hm : X.mg "enumerate" = none) (ha : PA X [e] ta) (hs : starEach [e] X.env = [(false, eval e X.env)] := by rfl) :
    PI X (.Tuple elts kk tpos) (.Call (.Name "enumerate" p) [e] [] pos) (iEnumT X.K ta) := by
  refine ⟨fun pins s σ H R I h => ?_⟩
  refine Call_ (ld_blt I hg hm boot_enumerate (PyProof.Rows.callWith_type1 (thn (ha.run pos pins s σ H _ I h) fun us s1 ⟨vs, H1, I1, r1, q1⟩ => ?_) hs rfl))
  obtain ⟨a, xs, ex, hq, q⟩ := q1
  subst ex
  cases r1 with
  | cons r rr =>
    cases rr
    cases r
    obtain ⟨its, rv, p', hz⟩ := I1.tuple hq
    have lt : a < s1.heap.objs.size := p'.lt
    refine call_enumT p' fun h' he hit hsz hk => wpAny_pyIter_enum he ?_
    have I2 : Inv X pins σ H1 { s1 with heap := h' } := I1.kept (t' := s1.toks) hk
    refine ⟨s1.heap.objs.size + 1, [s1.heap.objs.size + 1, s1.heap.objs.size], _, _, H1, rfl, I2, turn_enumT a (s1.heap.objs.size + 1) s1.heap.objs.size, ⟨⟨.none, he⟩, hit, Nat.succ_ne_self _, Nat.ne_of_lt lt, Nat.ne_of_lt (Nat.lt_succ_of_lt lt)⟩, fun b hb => ?_, q⟩
    have e' : b = s1.heap.objs.size + 1 ∨ b = s1.heap.objs.size := by simpa using hb
    have hle : s1.heap.objs.size ≤ b := by
      rcases e' with z | z
      · rw [z]; exact Nat.le_add_right _ _
      · rw [z]; exact Nat.le_refl _
    exact I1.fpOk hle (I1.hok.fresh hle)
theorem walk_enumT {K : PySem.W.Frag} {a : Addr} {xs : List V} : Walk (Itet K a) xs.length (fun H => SqT K H a xs) (YPair (fun i => some (.int (i : Nat))) (fun i => xs[i]?)) := by
  refine ⟨fun i _ hi q => ⟨xs, xs[i], q, by simp [hi]⟩, fun _ q => ⟨xs, q, Nat.le_refl _⟩, fun i H v H' _ q y => ?_⟩
  obtain ⟨T, x, h1, h2, h3, h4⟩ := y
  exact ⟨T, .int (i : Nat), x, h1, h2, h3, rfl, h4 xs q⟩

/-- x is c, c a written bool (x no bytes, no float, no class) -/
def isOk : V → Bool
  | .byt _ => false
  | .flt _ => false
  | .ty _ => false
  | _ => true
def rIsBx : R2 := fun x y H Q => ∃ b : Bool, y = .bl b ∧ isOk x = true ∧ Q (.bl (decide (x = .bl b))) H
def rNotBx : R2 := fun x y H Q => ∃ b : Bool, y = .bl b ∧ isOk x = true ∧ Q (.bl (!decide (x = .bl b))) H
theorem is_plain_bl {x : V} {v : Value} {b : Bool} (rx : RelV x v) (ok : isOk x = true) : plainIs v (.bool b) = true ∧ (v == Value.bool b) = decide (x = .bl b) := by
  cases x with
  | non =>
    cases (show v = Value.none from rx)
    exact ⟨rfl, by simp⟩
  | bl a =>
    cases (show v = Value.bool a from rx)
    exact ⟨rfl, by cases a <;> cases b <;> rfl⟩
  | int i =>
    obtain ⟨t, rfl⟩ := rx
    exact ⟨rfl, by simp⟩
  | str i =>
    obtain ⟨t, rfl⟩ := rx
    exact ⟨rfl, by simp⟩
  | ref i =>
    cases (show v = Value.ref i from rx)
    exact ⟨rfl, by simp⟩
  | byt _ => exact absurd ok Bool.false_ne_true
  | flt _ => exact absurd ok Bool.false_ne_true
  | ty _ => exact absurd ok Bool.false_ne_true
theorem op_isBx {X : Cx} : OpR X (compareOp .Is) rIsBx := by
  intro pins s σ H x y v u Q I rx ry h
  obtain ⟨b, rfl, ok, q⟩ := h
  cases (show u = Value.bool b from ry)
  obtain ⟨h1, h2⟩ := is_plain_bl (b := b) rx ok
  exact wpAny_is_plain h1 (by rw [h2]; exact ⟨.bl _, H, I, rfl, q⟩)
theorem op_notBx {X : Cx} : OpR X (compareOp .IsNot) rNotBx := by
  intro pins s σ H x y v u Q I rx ry h
  obtain ⟨b, rfl, ok, q⟩ := h
  cases (show u = Value.bool b from ry)
  obtain ⟨h1, h2⟩ := is_plain_bl (b := b) rx ok
  exact wpAny_isNot_plain h1 (by rw [h2]; exact ⟨.bl _, H, I, rfl, q⟩)
end K43
/-! What evaluates to which data (PyData, by Dp), the heap only growing. -/
namespace K43
open PySem L2 Evl
section
variable {K : PySem.W.Frag} {H H' : Hp}
mutual
theorem dp_ex (e : Ex H H') : ∀ {v : V} {d : PyData}, Dp K H v d → Dp K H' v d
  | _, _, .non => .non
  | _, _, .bl b => .bl b
  | _, _, .int i => .int i
  | _, _, .str x => .str x
  | _, _, .lst h a => .lst (ex_l e h) (dpa_ex e a)
  | _, _, .tup h a => .tup (ex_t e h) (dpa_ex e a)
theorem dpa_ex (e : Ex H H') : ∀ {vs : List V} {ds : List PyData}, DpAll K H vs ds → DpAll K H' vs ds
  | _, _, .nil => .nil
  | _, _, .cons h a => .cons (dp_ex e h) (dpa_ex e a)
end
theorem dpa_len : ∀ {vs : List V} {ds : List PyData}, DpAll K H vs ds → vs.length = ds.length
  | _, _, .nil => rfl
  | _, _, .cons _ a => by
    rw [List.length_cons, List.length_cons, dpa_len a]
theorem dpa_get : ∀ {vs : List V} {ds : List PyData} {i : Nat} {d : PyData}, DpAll K H vs ds → ds[i]? = some d → ∃ v, vs[i]? = some v ∧ Dp K H v d
  | _, _, _, _, .nil, h => by simp at h
  | v :: _, d :: _, 0, d', .cons h a, e => by
    simp at e
    subst e
    exact ⟨v, by simp, h⟩
  | _ :: _, _ :: _, i + 1, d', .cons h a, e => by
    obtain ⟨v, e1, h1⟩ := dpa_get (i := i) a (by simpa using e)
    exact ⟨v, by simpa using e1, h1⟩
theorem dpa_got {vs : List V} {ds : List PyData} {i : Nat} {v : V} (a : DpAll K H vs ds) (e : vs[i]? = some v) : ∃ d, ds[i]? = some d ∧ Dp K H v d := by
  obtain ⟨hi, _⟩ := List.getElem?_eq_some_iff.mp e
  have hi' : i < ds.length := by rw [← dpa_len a]; exact hi
  obtain ⟨v', e1, h1⟩ := dpa_get a (List.getElem?_eq_getElem hi')
  rw [e] at e1
  cases e1
  exact ⟨_, List.getElem?_eq_getElem hi', h1⟩
theorem dpa_at {vs : List V} {ds : List PyData} {i : Int} {d : PyData} (a : DpAll K H vs ds) (e : atI ds i = some d) : ∃ v, atI vs i = some v ∧ Dp K H v d := by
  unfold atI at e ⊢
  rw [dpa_len a]
  cases q : ixN ds.length i with
  | none => rw [q] at e; cases e
  | some j =>
    rw [q] at e
    exact dpa_get a e
theorem dpa_app : ∀ {vs ws : List V} {ds es : List PyData}, DpAll K H vs ds → DpAll K H ws es → DpAll K H (vs ++ ws) (ds ++ es)
  | _, _, _, _, .nil, b => b
  | _, _, _, _, .cons h a, b => .cons h (dpa_app a b)
theorem dpa_take : ∀ {vs : List V} {ds : List PyData} (n : Nat), DpAll K H vs ds → DpAll K H (vs.take n) (ds.take n)
  | _, _, 0, _ => .nil
  | _, _, _ + 1, .nil => .nil
  | _, _, n + 1, .cons h a => .cons h (dpa_take n a)
theorem dpa_drop : ∀ {vs : List V} {ds : List PyData} (n : Nat), DpAll K H vs ds → DpAll K H (vs.drop n) (ds.drop n)
  | _, _, 0, a => a
  | _, _, _ + 1, .nil => .nil
  | _, _, n + 1, .cons h a => dpa_drop n a
theorem dp_str {v : V} {x : Str} (h : Dp K H v (.str x)) : v = .str x := by cases h; rfl
theorem dp_int {v : V} {x : Int} (h : Dp K H v (.int x)) : v = .int x := by cases h; rfl
theorem dp_bl {v : V} {x : Bool} (h : Dp K H v (.bool x)) : v = .bl x := by cases h; rfl
theorem dp_non {v : V} (h : Dp K H v .none) : v = .non := by cases h; rfl
theorem dpa_strs : ∀ {vs : List V} {xs : List Str}, DpAll K H vs (xs.map PyData.str) → vs = xs.map V.str
  | [], [], _ => rfl
  | _, [], h => by cases h; rfl
  | _, x :: xs, h => by
    cases h with
    | cons h1 h2 => rw [dp_str h1, dpa_strs h2] <;> rfl
theorem dpa_bls : ∀ {vs : List V} {xs : List Bool}, DpAll K H vs (xs.map PyData.bool) → vs = xs.map V.bl
  | _, [], h => by cases h; rfl
  | _, x :: xs, h => by
    cases h with
    | cons h1 h2 => rw [dp_bl h1, dpa_bls h2] <;> rfl
theorem dpa_ints : ∀ {vs : List V} {xs : List Int}, DpAll K H vs (xs.map PyData.int) → vs = xs.map V.int
  | _, [], h => by cases h; rfl
  | _, x :: xs, h => by
    cases h with
    | cons h1 h2 => rw [dp_int h1, dpa_ints h2] <;> rfl
theorem dpa_of_bls : ∀ (xs : List Bool), DpAll K H (xs.map V.bl) (xs.map PyData.bool)
  | [] => .nil
  | x :: xs => .cons (.bl x) (dpa_of_bls xs)
theorem dpa_of_ints : ∀ (xs : List Int), DpAll K H (xs.map V.int) (xs.map PyData.int)
  | [] => .nil
  | x :: xs => .cons (.int x) (dpa_of_ints xs)
theorem dpa_of_strs : ∀ (xs : List Str), DpAll K H (xs.map V.str) (xs.map PyData.str)
  | [] => .nil
  | x :: xs => .cons (.str x) (dpa_of_strs xs)
end

/-! ### evaluation to data -/
def EvP (te : TE) (σ : L2.St) (H : Hp) (P : V → Hp → Prop) : Prop := ∀ H1, Ex H H1 → ∀ Q : VK, (∀ v H2, Ex H1 H2 → P v H2 → Q v H2) → te σ H1 Q
def EvD (K : PySem.W.Frag) (te : TE) (σ : L2.St) (H : Hp) (d : PyData) : Prop := EvP te σ H fun v H2 => Dp K H2 v d
def EvDs (K : PySem.W.Frag) (ta : TA) (σ : L2.St) (H : Hp) (ds : List PyData) : Prop := ∀ H1, Ex H H1 → ∀ Q : List V → Hp → Prop, (∀ vs H2, Ex H1 H2 → DpAll K H2 vs ds → Q vs H2) → ta σ H1 Q
section
variable {K : PySem.W.Frag} {σ : L2.St} {H H' : Hp} {ta tb te : TE} {tas : TA} {d d' : PyData} {ds : List PyData}
theorem EvP.mono {P : V → Hp → Prop} (e : Ex H H') (h : EvP te σ H P) : EvP te σ H' P := fun H1 a Q q => h H1 (e.trans a) Q q
theorem EvD.mono (e : Ex H H') (h : EvD K te σ H d) : EvD K te σ H' d := EvP.mono e h
theorem ed_var {i : Nat} {v : V} (h : σ[i]? = some (some v)) (hd : Dp K H v d) : EvD K (tVar i) σ H d := fun H1 e Q q => ⟨v, h, q v H1 (Ex.refl H1) (dp_ex e hd)⟩
theorem ed_of {v : V} (h : Ev te σ H v) (hd : Dp K H v d) : EvD K te σ H d := fun H1 e Q q => h H1 e Q fun H2 e2 => q v H2 e2 (dp_ex (e.trans e2) hd)
theorem ev_of (h : EvD K te σ H d) {v : V} (hv : ∀ {H2 : Hp} {u : V}, Dp K H2 u d → u = v) : Ev te σ H v := fun H1 e Q q => h H1 e Q fun u H2 e2 hd => by
  rw [hv hd]
  exact q H2 e2
theorem ev_bl {b : Bool} (h : EvD K te σ H (.bool b)) : Ev te σ H (.bl b) := ev_of h dp_bl
theorem ev_int {i : Int} (h : EvD K te σ H (.int i)) : Ev te σ H (.int i) := ev_of h dp_int
theorem ev_str {x : Str} (h : EvD K te σ H (.str x)) : Ev te σ H (.str x) := ev_of h dp_str
theorem ev_non (h : EvD K te σ H .none) : Ev te σ H .non := ev_of h dp_non
theorem ed_bl {b : Bool} (h : Ev te σ H (.bl b)) : EvD K te σ H (.bool b) := ed_of h (.bl b)
theorem ed_int {i : Int} (h : Ev te σ H (.int i)) : EvD K te σ H (.int i) := ed_of h (.int i)
theorem ed_str {x : Str} (h : Ev te σ H (.str x)) : EvD K te σ H (.str x) := ed_of h (.str x)
theorem ed_non (h : Ev te σ H .non) : EvD K te σ H .none := ed_of h .non
theorem eds_nil : EvDs K tNil σ H [] := fun H1 _ Q q => q [] H1 (Ex.refl H1) .nil
theorem eds_cons (h : EvD K ta σ H d) (hr : EvDs K tas σ H ds) : EvDs K (tCons ta tas) σ H (d :: ds) := fun H1 e Q q =>
  h H1 e _ fun v H2 e2 hv => hr H2 (e.trans e2) _ fun vs H3 e3 hvs => q _ H3 (e2.trans e3) (.cons (dp_ex e3 hv) hvs)
theorem ed_tup (h : EvDs K tas σ H ds) (hl : ds.length ≤ 100000) : EvD K (tTup tas) σ H (.tuple ds) := fun H1 e Q q =>
  h H1 e _ fun vs H2 e2 hvs => ⟨sz_of (by rw [dpa_len hvs]; exact hl), fun p hp => q _ _ (e2.trans (Ex.new hp)) (.tup (st_of upd_same) (dpa_ex (Ex.new hp) hvs))⟩
theorem ed_lst (h : EvDs K tas σ H ds) (hl : ds.length ≤ 100000) : EvD K (tLst tas) σ H (.list ds) := fun H1 e Q q =>
  h H1 e _ fun vs H2 e2 hvs => ⟨sz_of (by rw [dpa_len hvs]; exact hl), fun p hp => q _ _ (e2.trans (Ex.new hp)) (.lst (sq_of upd_same) (dpa_ex (Ex.new hp) hvs))⟩
theorem ed_ixT {i : Int} (ha : EvD K ta σ H (.tuple ds)) (hb : Ev tb σ H (.int i)) (hi : atI ds i = some d) : EvD K (tOp (rIxT K) ta tb) σ H d := fun H1 e Q q =>
  ha H1 e _ fun v H2 e2 hv => hb H2 (e.trans e2) _ fun H3 e3 => by
    cases hv with
    | tup hs hall =>
      obtain ⟨x, hx, hd⟩ := dpa_at hall hi
      exact ⟨_, _, i, x, rfl, rfl, ex_t e3 hs, hx, q x H3 (e2.trans e3) (dp_ex e3 hd)⟩
theorem ed_ixL {i : Int} (ha : EvD K ta σ H (.list ds)) (hb : Ev tb σ H (.int i)) (hi : atI ds i = some d) : EvD K (tOp (rIxL K) ta tb) σ H d := fun H1 e Q q =>
  ha H1 e _ fun v H2 e2 hv => hb H2 (e.trans e2) _ fun H3 e3 => by
    cases hv with
    | lst hs hall =>
      obtain ⟨x, hx, hd⟩ := dpa_at hall hi
      exact ⟨_, _, i, x, rfl, rfl, ex_l e3 hs, hx, q x H3 (e2.trans e3) (dp_ex e3 hd)⟩
/-! ### len -/
def rLen (K : PySem.W.Frag) : List V → Hp → VK → Prop := fun xs H Q => ∃ x n, xs = [x] ∧ LenV K x H n ∧ Q (.int (n : Nat)) H
def lenD : PyData → Option Nat
  | .str x => if x.length ≤ 100000 then some x.length else none
  | .list ds => some ds.length
  | .tuple ds => some ds.length
  | _ => none
theorem len_of {v : V} {n : Nat} (h : Dp K H v d) (hn : lenD d = some n) : LenV K v H n := by
  cases h with
  | non => cases hn
  | bl b => cases hn
  | int i => cases hn
  | str x =>
    have z : (if x.length ≤ 100000 then some x.length else none) = some n := hn
    by_cases hx : x.length ≤ 100000
    · rw [if_pos hx] at z
      cases z
      exact ⟨sz_of hx, rfl⟩
    · rw [if_neg hx] at z
      cases z
  | lst hs ha =>
    cases hn
    exact .inl ⟨_, hs, (dpa_len ha).symm⟩
  | tup hs ha =>
    cases hn
    exact .inr ⟨_, hs, (dpa_len ha).symm⟩
theorem ev_lenD {n : Nat} (ha : EvD K ta σ H d) (hn : lenD d = some n) : Ev (tCB (rLen K) (tCons ta tNil)) σ H (.int (n : Nat)) := fun H1 e Q q =>
  ha H1 e _ fun v H2 e2 hv => ⟨v, n, rfl, len_of hv hn, q H2 e2⟩
/-! ### isinstance of a built-in class -/
def tyD : PyData → String
  | .none => "NoneType"
  | .bool _ => "bool"
  | .int _ => "int"
  | .str _ => "str"
  | .list _ => "list"
  | .tuple _ => "tuple"
  | .dict _ => "dict"
theorem tyx_of {v : V} (h : Dp K H v d) : TyX K H v (.type (tyD d)) := by
  cases h with
  | non => exact .base .non
  | bl b => exact .base (.bl b)
  | int i => exact .base (.int i)
  | str x => exact .base (.str x)
  | lst hs ha =>
    rcases hs with (hs | ⟨o, hs⟩) | ⟨o, its, n, hk, hc, _⟩
    · exact .base (.lst hs)
    · exact .base (.frz hs)
    · exact .kList hk hc
  | tup hs ha =>
    rcases hs with (hs | ⟨o, hs⟩) | ⟨o, its, n, hk, hc, _⟩
    · exact .base (.tup hs)
    · exact .fTuple hs
    · exact .kTuple hk hc
theorem ev_isi {n : String} {b : Bool} (ha : EvD K ta σ H d) (hb : kitB (tyD d) n = some b) : Ev (tCB (rIsi K) (tCons ta (tCons (tC (.ty n)) tNil))) σ H (.bl b) := fun H1 e Q q =>
  ha H1 e _ fun v H2 e2 hv => ⟨v, .ty n, .type (tyD d), .type n, b, rfl, .ty n, tyx_of hv, kit_ty hb, q H2 e2⟩
/-! ### == and in, of values -/
theorem ev_eq {x y : V} {b : Bool} (ha : Ev ta σ H x) (hb : Ev tb σ H y) (hs : scal x y = true) (hd : decide (x = y) = b) : Ev (tOp rEq ta tb) σ H (.bl b) := by
  rw [← hd]
  exact ev_op ha hb (rv_eq hs)
theorem ev_ne {x y : V} {b : Bool} (ha : Ev ta σ H x) (hb : Ev tb σ H y) (hs : scal x y = true) (hd : (!decide (x = y)) = b) : Ev (tOp rNe ta tb) σ H (.bl b) := by
  rw [← hd]
  exact ev_op ha hb (rv_ne hs)
theorem ev_isN {x : V} {b : Bool} (ha : EvP ta σ H fun v H2 => v = .non ↔ b = true) : Ev (tOp rIsN ta (tC .non)) σ H (.bl b) := fun H1 e Q q =>
  ha H1 e _ fun v H2 e2 hv => ⟨rfl, by
    have z : decide (v = V.non) = b := by
      cases b with
      | true => exact decide_eq_true (hv.mpr rfl)
      | false => exact decide_eq_false fun y => Bool.false_ne_true (hv.mp y)
    rw [z]
    exact q H2 e2⟩
/-! ### a chain of two comparisons -/
theorem ev_chain {r r' : R2} {tc : TE} {x y z : V} {a b : Bool} (ha : Ev ta σ H x) (hb : Ev tb σ H y) (h1 : RV r x y H (.bl a)) (hc : a = true → Ev tc σ H z) (h2 : a = true → RV r' y z H (.bl b)) : Ev (tChain r r' ta tb tc) σ H (.bl (a && b)) := fun H1 e Q q =>
  ha H1 e _ fun H2 e2 => hb H2 (e.trans e2) _ fun H3 e3 => h1 H3 ((e.trans e2).trans e3) _ fun H4 e4 => ⟨a, rfl, by
    cases a with
    | true =>
      show tc σ H4 fun w' H5 => r' y w' H5 Q
      exact hc rfl H4 (((e.trans e2).trans e3).trans e4) _ fun H5 e5 => h2 rfl H5 ((((e.trans e2).trans e3).trans e4).trans e5) Q fun H6 e6 => q H6 ((((e2.trans e3).trans e4).trans e5).trans e6)
    | false =>
      show Q (.bl false) H4
      exact q H4 ((e2.trans e3).trans e4)⟩
theorem et_test {b : Bool} (h : Ev te σ H (.bl b)) : EvT (tTest te) σ H b := Evl.et_test h
end
end K43
/-! Comprehensions, all(..), len(set(..)), calls of defs, by data. -/
namespace K43
open PySem L2 Evl
section
variable {K : PySem.W.Frag} {σ : L2.St} {H H' : Hp} {ta tb te tl : TE} {tas : TA} {d d' : PyData} {ds : List PyData}
/-- the list at Dl while a comprehension runs: the first i of f 0, f 1, .. -/
def Cm (H : Hp) (f : Nat → V) (Dl : Addr) (i : Nat) (H' : Hp) : Prop := H Dl = none ∧ Ex H H' ∧ H' Dl = some (.lst ((List.range i).map f))
theorem cm_turn {f : Nat → V} {Dl : Addr} {i : Nat} {σ2 : L2.St} (p : Cm H f Dl i H') (hi : i < 50000) (he : Ev te σ2 H (f i)) :
    tYes σ2 H' fun b H3 => if b = true then te σ2 H3 fun y H4 => ∃ acc, H4 Dl = some (.lst acc) ∧ acc.length < sizeLine ∧ Cm H f Dl (i + 1) (upd H4 Dl (.lst (acc ++ [y]))) else Cm H f Dl (i + 1) H3 := by
  obtain ⟨p1, p2, p3⟩ := p
  show te σ2 H' fun y H4 => ∃ acc, H4 Dl = some (.lst acc) ∧ acc.length < sizeLine ∧ Cm H f Dl (i + 1) (upd H4 Dl (.lst (acc ++ [y])))
  refine he H' p2 _ fun H4 e4 => ⟨(List.range i).map f, e4 Dl _ p3, sz_lt (by rw [List.length_map, List.length_range]; omega), p1, Ex.mut (p2.trans e4) p1, ?_⟩
  rw [upd_same, List.range_succ, List.map_append]
  rfl
theorem cm_map {α : Type} {xs : List α} {f : Nat → V} {g : α → V} (h : ∀ i x, xs[i]? = some x → f i = g x) : (List.range xs.length).map f = xs.map g := by
  apply List.ext_getElem?
  intro i
  rw [List.getElem?_map, List.getElem?_map]
  by_cases hi : i < xs.length
  · rw [List.getElem?_range hi, List.getElem?_eq_getElem hi]
    show some (f i) = some (g xs[i])
    rw [h i xs[i] (List.getElem?_eq_getElem hi)]
  · rw [List.getElem?_eq_none (by rw [List.length_range]; omega), List.getElem?_eq_none (by omega)] <;> rfl
/-- over a tuple -/
theorem el_lcT {j : Nat} {vs : List Nat} (g : PyData → V) (h : EvD K tl σ H (.tuple ds)) (hz : ds.length ≤ 40000) (hw : ∀ x, wipe ((wipe σ vs).set j (some x)) vs = wipe σ vs)
    (he : ∀ (x : V) (d : PyData) H1, Ex H H1 → d ∈ ds → Dp K H1 x d → Ev te ((wipe σ vs).set j (some x)) H1 (g d)) : EvL (tLc (iTup K tl) (gName j) tYes te vs) σ H (ds.map g) := fun H0 e Q q =>
  h H0 e _ fun v H1 e1 hv => by
    cases hv with
    | @tup a xs _ hs ha =>
      refine ⟨a, rfl, ⟨xs, hs⟩, fun Dl hD => ?_⟩
      have hl := dpa_len ha
      refine lc_tup (xs := xs) (Cm H1 (fun i => ((ds[i]?).map g).getD .non) Dl) ⟨hD, Ex.new hD, upd_same⟩ (fun i H' _ p => ex_t p.2.1 hs) (fun i x H' hi p => ⟨hw x, ?_⟩) (fun H' p => ?_)
      · obtain ⟨d, hd, hdp⟩ := dpa_got ha hi
        have hlt := (List.getElem?_eq_some_iff.mp hi).1
        refine cm_turn p (by omega) ?_
        rw [hd]
        exact he x d H1 (e.trans e1) (List.mem_of_getElem? hd) hdp
      · refine q Dl H' (fresh_back e1 p.1) (e1.trans p.2.1) ?_
        rw [p.2.2, hl, cm_map (g := g)]
        intro i x hx
        rw [hx]
        rfl
/-- over a text -/
theorem el_lcS {j : Nat} {vs : List Nat} {z : Str} (g : Nat → V) (h : Ev tl σ H (.str z)) (hz : z.length ≤ 40000) (hw : ∀ x, wipe ((wipe σ vs).set j (some x)) vs = wipe σ vs)
    (he : ∀ (c : Nat) H1, Ex H H1 → Ev te ((wipe σ vs).set j (some (.str ⟨#[c]⟩))) H1 (g c)) : EvL (tLc (iStr tl) (gName j) tYes te vs) σ H (z.cps.toList.map g) := fun H0 e Q q =>
  h H0 e _ fun H1 e1 => ⟨z, rfl, fun Dl hD => by
    refine lc_it walk_str (Cm H1 (fun i => ((z.cps[i]?).map g).getD .non) Dl) ⟨hD, Ex.new hD, upd_same⟩ (fun i H' _ p => trivial) (fun i x H' H2 hi p hy => ?_) (fun H' p => ?_)
    · obtain ⟨rfl, c, hc, rfl⟩ := hy
      have hz' : z.cps.size ≤ 40000 := hz
      refine ⟨hw _, cm_turn p (by omega) ?_⟩
      rw [hc]
      exact he c H1 (e.trans e1)
    · refine q Dl H' (fresh_back e1 p.1) (e1.trans p.2.1) ?_
      have hl : z.cps.size = z.cps.toList.length := by simp
      rw [p.2.2, hl, cm_map (g := g)]
      intro i x hx
      have hx' : z.cps[i]? = some x := by simpa using hx
      rw [hx']
      rfl⟩
/-- over a range -/
theorem el_lcR {j : Nat} {vs : List Nat} {n : Nat} {tar : TA} (g : Nat → V) (h : EvA tar σ H [.int (n : Nat)]) (hz : n ≤ 40000) (hw : ∀ x, wipe ((wipe σ vs).set j (some x)) vs = wipe σ vs)
    (he : ∀ (i : Nat) H1, Ex H H1 → i < n → Ev te ((wipe σ vs).set j (some (.int (i : Nat)))) H1 (g i)) : EvL (tLc (iRng1 tar) (gName j) tYes te vs) σ H ((List.range n).map g) := fun H0 e Q q =>
  h H0 e _ fun H1 e1 => ⟨(n : Int), rfl, by omega, by omega, fun Dl hD => by
    have en : ((n : Int)).toNat = n := by omega
    rw [en]
    refine lc_range (lo := 0) (n := n) (Cm H1 g Dl) ⟨hD, Ex.new hD, upd_same⟩ (fun i H' hi p => ?_) (fun H' p => q Dl H' (fresh_back e1 p.1) (e1.trans p.2.1) p.2.2)
    have e0 : (0 : Int) + (i : Int) = (i : Int) := Int.zero_add _
    show wipe ((wipe σ vs).set j (some (.int ((0 : Int) + (i : Int))))) vs = wipe σ vs ∧ tYes ((wipe σ vs).set j (some (.int ((0 : Int) + (i : Int))))) H' _
    rw [e0]
    exact ⟨hw _, cm_turn p (by omega) (he i H1 (e.trans e1) hi)⟩⟩
/-- all(a list of bools) -/
theorem ev_all {bs : List Bool} {xs : List V} (h : EvL te σ H xs) (hx : xs = bs.map V.bl) : Ev (tCB (rAll K) (tCons te tNil)) σ H (.bl (bs.all id)) := fun H1 e Q q =>
  h H1 e _ fun p H2 _ e2 hp => ⟨p, bs, rfl, sq_of (by rw [hp, hx]), q H2 e2⟩
/-- the list that a comprehension makes, as data -/
theorem ed_ofL {xs : List V} (h : EvL te σ H xs) (ha : ∀ H1 : Hp, DpAll K H1 xs ds) : EvD K te σ H (.list ds) := fun H1 e Q q => h H1 e Q fun p H2 _ e2 hp => q _ H2 e2 (.lst (sq_of hp) (ha H2))
/-- len(set(names)) -/
theorem ev_lenSet {xs : List Str} (h : EvD K te σ H d) (hd : d = .list (xs.map PyData.str) ∨ d = .tuple (xs.map PyData.str)) (hl : xs.length ≤ 1000) : Ev (tLenSetT K te) σ H (.int ((meets xs).length : Nat)) := fun H1 e Q q =>
  h H1 e _ fun v H2 e2 hv => by
    rcases hd with rfl | rfl
    · cases hv with
      | lst hs ha => exact ⟨_, xs, rfl, .inl (by rw [← dpa_strs ha]; exact hs), hl, q H2 e2⟩
    · cases hv with
      | tup hs ha => exact ⟨_, xs, rfl, .inr (by rw [← dpa_strs ha]; exact hs), hl, q H2 e2⟩
/-- tuple(a list | a tuple) -/
def rTupOf (K : PySem.W.Frag) : List V → Hp → VK → Prop := fun xs H Q => ∃ p ys, xs = [.ref p] ∧ ((SqL K H p ys ∧ ∀ l, H l = none → Q (.ref l) (upd H l (.tup ys))) ∨ (SqT K H p ys ∧ Q (.ref p) H))
theorem ed_tupOf (h : EvD K te σ H (.list ds)) : EvD K (tCB (rTupOf K) (tCons te tNil)) σ H (.tuple ds) := fun H1 e Q q =>
  h H1 e _ fun v H2 e2 hv => by
    cases hv with
    | lst hs ha => exact ⟨_, _, rfl, .inl ⟨hs, fun l hl => q _ _ (e2.trans (Ex.new hl)) (.tup (st_of upd_same) (dpa_ex (Ex.new hl) ha))⟩⟩
/-- list(a list | a tuple) -/
theorem ed_lstOf (h : EvD K te σ H d) (hd : d = .list ds ∨ d = .tuple ds) : EvD K (tCB (rListS K) (tCons te tNil)) σ H (.list ds) := fun H1 e Q q =>
  h H1 e _ fun v H2 e2 hv => by
    rcases hd with rfl | rfl
    · cases hv with
      | lst hs ha => exact ⟨_, _, rfl, .inl hs, fun l hl => q _ _ (e2.trans (Ex.new hl)) (.lst (sq_of upd_same) (dpa_ex (Ex.new hl) ha))⟩
    · cases hv with
      | tup hs ha => exact ⟨_, _, rfl, .inr hs, fun l hl => q _ _ (e2.trans (Ex.new hl)) (.lst (sq_of upd_same) (dpa_ex (Ex.new hl) ha))⟩
/-- t + u of tuples -/
theorem ed_catT {es : List PyData} (ha : EvD K ta σ H (.tuple ds)) (hb : EvD K tb σ H (.tuple es)) (hl : ds.length + es.length ≤ 100000) : EvD K (tOp (rCatA K) ta tb) σ H (.tuple (ds ++ es)) := fun H1 e Q q =>
  ha H1 e _ fun v H2 e2 hv => hb H2 (e.trans e2) _ fun u H3 e3 hu => by
    cases hv with
    | @tup a xs _ hs ax =>
      cases hu with
      | @tup b ys _ ht ay =>
        have ax' := dpa_ex e3 ax
        have hs' := ex_t e3 hs
        refine ⟨a, b, xs, ys, rfl, rfl, hs', ht, sz_of (by rw [dpa_len ax, dpa_len ay]; exact hl), fun z => ?_, fun _ z => ?_, fun _ _ p hp => ?_⟩
        · subst z
          cases ax'
          exact q _ H3 (e2.trans e3) (.tup ht ay)
        · subst z
          cases ay
          refine q _ H3 (e2.trans e3) ?_
          show Dp K H3 _ (.tuple (ds ++ []))
          rw [List.append_nil]
          exact .tup hs' ax'
        · exact q _ _ ((e2.trans e3).trans (Ex.new hp)) (.tup (st_of upd_same) (dpa_ex (Ex.new hp) (dpa_app ax' ay)))
/-- t[lo:hi] -/
def cutD (ds : List PyData) (lo hi : Option Int) : List PyData := (ds.drop (HT.sIx ds.length 0 lo)).take (HT.sIx ds.length ds.length hi - HT.sIx ds.length 0 lo)
theorem ed_slT {tlo thi : TO} {lo hi : Option Int} (ha : EvD K ta σ H (.tuple ds)) (hl : EvO tlo σ H lo) (hh : EvO thi σ H hi) : EvD K (tSl (rSlA K) ta tlo thi) σ H (.tuple (cutD ds lo hi)) := fun H1 e Q q =>
  ha H1 e _ fun v H2 e2 hv => hl H2 (e.trans e2) _ fun H3 e3 => hh H3 ((e.trans e2).trans e3) _ fun H4 e4 => by
    cases hv with
    | @tup a xs _ hs ax =>
      have e5 := e3.trans e4
      have ax' := dpa_ex e5 ax
      have hlen := dpa_len ax
      refine ⟨a, xs, rfl, ex_t e5 hs, fun z => ?_, fun _ p hp => ?_⟩
      · have ec : cutD ds lo hi = ds := by
          unfold cutD
          rw [hlen] at z
          rw [z.1, z.2]
          simp
        refine q _ H4 (e2.trans e5) ?_
        show Dp K H4 _ (.tuple (cutD ds lo hi))
        rw [ec]
        exact .tup (ex_t e5 hs) ax'
      · refine q _ _ ((e2.trans e5).trans (Ex.new hp)) (.tup (st_of upd_same) (dpa_ex (Ex.new hp) ?_))
        unfold cutV cutD
        rw [hlen]
        exact dpa_take _ (dpa_drop _ ax')
/-- xs + ys, both tracked lists: a new one and a new one; one that a name holds and a new one -/
theorem el_cat {xs ys : List V} (ha : EvL ta σ H xs) (hb : EvL tb σ H ys) (hl : xs.length + ys.length ≤ 100000) : EvL (tOp rCat ta tb) σ H (xs ++ ys) := fun H1 e Q q =>
  ha H1 e _ fun p H2 hp e2 h2 => hb H2 (e.trans e2) _ fun r H3 hr e3 h3 => ⟨p, r, xs, ys, rfl, rfl, e3 p _ h2, h3, sz_of hl, fun l hn => q l _ (fresh_back (e2.trans e3) hn) ((e2.trans e3).trans (Ex.new hn)) upd_same⟩
theorem el_catV {xs ys : List V} {p : Addr} (ha : Ev ta σ H (.ref p)) (hp : H p = some (.lst xs)) (hb : EvL tb σ H ys) (hl : xs.length + ys.length ≤ 100000) : EvL (tOp rCat ta tb) σ H (xs ++ ys) := fun H1 e Q q =>
  ha H1 e _ fun H2 e2 => hb H2 (e.trans e2) _ fun r H3 hr e3 h3 => ⟨p, r, xs, ys, rfl, rfl, (e2.trans e3) p _ (e p _ hp), h3, sz_of hl, fun l hn => q l _ (fresh_back (e2.trans e3) hn) ((e2.trans e3).trans (Ex.new hn)) upd_same⟩
end
/-! ### promises by data, and calls -/
def spS1 (K : PySem.W.Frag) (pre : PyData → Prop) (f : PyData → V) : Sp := fun vs H Q _ => ∃ v d, vs = [v] ∧ Dp K H v d ∧ pre d ∧ ∀ H', Ex H H' → Q (f d) H'
def spS2 (K : PySem.W.Frag) (pre : PyData → PyData → Prop) (f : PyData → PyData → V) : Sp := fun vs H Q _ => ∃ v u d e, vs = [v, u] ∧ Dp K H v d ∧ Dp K H u e ∧ pre d e ∧ ∀ H', Ex H H' → Q (f d e) H'
def spD1 (K : PySem.W.Frag) (pre : PyData → Prop) (f : PyData → PyData) : Sp := fun vs H Q _ => ∃ v d, vs = [v] ∧ Dp K H v d ∧ pre d ∧ ∀ u H', Ex H H' → Dp K H' u (f d) → Q u H'
def spD2 (K : PySem.W.Frag) (pre : PyData → PyData → Prop) (f : PyData → PyData → PyData) : Sp := fun vs H Q _ => ∃ v u d e, vs = [v, u] ∧ Dp K H v d ∧ Dp K H u e ∧ pre d e ∧ ∀ y H', Ex H H' → Dp K H' y (f d e) → Q y H'
section
variable {K : PySem.W.Frag} {σ : L2.St} {H H' : Hp} {ta tb te tl : TE} {d e : PyData} {E : XK}
theorem ev_call1 {pre : PyData → Prop} {f : PyData → V} (h : EvD K ta σ H d) (hp : pre d) : Ev (tCall (spS1 K pre f) [] E (tCons ta tNil)) σ H (f d) := fun H1 e Q q =>
  h H1 e _ fun v H2 e2 hv => ⟨v, d, rfl, hv, hp, fun H' e' => q H' (e2.trans e')⟩
theorem ev_call2 {pre : PyData → PyData → Prop} {f : PyData → PyData → V} (h : EvD K ta σ H d) (h2 : EvD K tb σ H e) (hp : pre d e) : Ev (tCall (spS2 K pre f) [] E (tCons ta (tCons tb tNil))) σ H (f d e) := fun H1 ex Q q =>
  h H1 ex _ fun v H2 e2 hv => h2 H2 (ex.trans e2) _ fun u H3 e3 hu => ⟨v, u, d, e, rfl, dp_ex e3 hv, hu, hp, fun H' e' => q H' ((e2.trans e3).trans e')⟩
theorem ed_call1 {pre : PyData → Prop} {f : PyData → PyData} (h : EvD K ta σ H d) (hp : pre d) : EvD K (tCall (spD1 K pre f) [] E (tCons ta tNil)) σ H (f d) := fun H1 e Q q =>
  h H1 e _ fun v H2 e2 hv => ⟨v, d, rfl, hv, hp, fun u H' e' hu => q u H' (e2.trans e') hu⟩
theorem ed_call2 {pre : PyData → PyData → Prop} {f : PyData → PyData → PyData} (h : EvD K ta σ H d) (h2 : EvD K tb σ H e) (hp : pre d e) : EvD K (tCall (spD2 K pre f) [] E (tCons ta (tCons tb tNil))) σ H (f d e) := fun H1 ex Q q =>
  h H1 ex _ fun v H2 e2 hv => h2 H2 (ex.trans e2) _ fun u H3 e3 hu => ⟨v, u, d, e, rfl, dp_ex e3 hv, hu, hp, fun y H' e' hy => q y H' ((e2.trans e3).trans e') hy⟩
end
end K43
/-! The defs of values.py and schemas.py that look at one value: is_number, is_text, kind_of, is_name, are_unlike. -/
namespace K43
open PySem L2 Evl
/-! ### isinstance's answers -/
theorem kit_int_none : kitB "NoneType" "int" = some false := by decide +kernel
theorem kit_int_bool : kitB "bool" "int" = some true := by decide +kernel
theorem kit_int_int : kitB "int" "int" = some true := by decide +kernel
theorem kit_int_str : kitB "str" "int" = some false := by decide +kernel
theorem kit_int_list : kitB "list" "int" = some false := by decide +kernel
theorem kit_int_tuple : kitB "tuple" "int" = some false := by decide +kernel
theorem kit_int_dict : kitB "dict" "int" = some false := by decide +kernel
def isInt : PyData → Bool
  | .bool _ => true
  | .int _ => true
  | _ => false
theorem kit_int : ∀ d : PyData, kitB (tyD d) "int" = some (isInt d)
  | .none => kit_int_none
  | .bool _ => kit_int_bool
  | .int _ => kit_int_int
  | .str _ => kit_int_str
  | .list _ => kit_int_list
  | .tuple _ => kit_int_tuple
  | .dict _ => kit_int_dict
theorem kit_bool_none : kitB "NoneType" "bool" = some false := by decide +kernel
theorem kit_bool_bool : kitB "bool" "bool" = some true := by decide +kernel
theorem kit_bool_int : kitB "int" "bool" = some false := by decide +kernel
theorem kit_bool_str : kitB "str" "bool" = some false := by decide +kernel
theorem kit_bool_list : kitB "list" "bool" = some false := by decide +kernel
theorem kit_bool_tuple : kitB "tuple" "bool" = some false := by decide +kernel
theorem kit_bool_dict : kitB "dict" "bool" = some false := by decide +kernel
def isBool : PyData → Bool
  | .bool _ => true
  | _ => false
theorem kit_bool : ∀ d : PyData, kitB (tyD d) "bool" = some (isBool d)
  | .none => kit_bool_none
  | .bool _ => kit_bool_bool
  | .int _ => kit_bool_int
  | .str _ => kit_bool_str
  | .list _ => kit_bool_list
  | .tuple _ => kit_bool_tuple
  | .dict _ => kit_bool_dict
theorem kit_str_none : kitB "NoneType" "str" = some false := by decide +kernel
theorem kit_str_bool : kitB "bool" "str" = some false := by decide +kernel
theorem kit_str_int : kitB "int" "str" = some false := by decide +kernel
theorem kit_str_str : kitB "str" "str" = some true := by decide +kernel
theorem kit_str_list : kitB "list" "str" = some false := by decide +kernel
theorem kit_str_tuple : kitB "tuple" "str" = some false := by decide +kernel
theorem kit_str_dict : kitB "dict" "str" = some false := by decide +kernel
def isStr : PyData → Bool
  | .str _ => true
  | _ => false
theorem kit_str : ∀ d : PyData, kitB (tyD d) "str" = some (isStr d)
  | .none => kit_str_none
  | .bool _ => kit_str_bool
  | .int _ => kit_str_int
  | .str _ => kit_str_str
  | .list _ => kit_str_list
  | .tuple _ => kit_str_tuple
  | .dict _ => kit_str_dict
theorem kit_tuple_none : kitB "NoneType" "tuple" = some false := by decide +kernel
theorem kit_tuple_bool : kitB "bool" "tuple" = some false := by decide +kernel
theorem kit_tuple_int : kitB "int" "tuple" = some false := by decide +kernel
theorem kit_tuple_str : kitB "str" "tuple" = some false := by decide +kernel
theorem kit_tuple_list : kitB "list" "tuple" = some false := by decide +kernel
theorem kit_tuple_tuple : kitB "tuple" "tuple" = some true := by decide +kernel
theorem kit_tuple_dict : kitB "dict" "tuple" = some false := by decide +kernel
def isTuple : PyData → Bool
  | .tuple _ => true
  | _ => false
theorem kit_tuple : ∀ d : PyData, kitB (tyD d) "tuple" = some (isTuple d)
  | .none => kit_tuple_none
  | .bool _ => kit_tuple_bool
  | .int _ => kit_tuple_int
  | .str _ => kit_tuple_str
  | .list _ => kit_tuple_list
  | .tuple _ => kit_tuple_tuple
  | .dict _ => kit_tuple_dict
theorem kit_list_none : kitB "NoneType" "list" = some false := by decide +kernel
theorem kit_list_bool : kitB "bool" "list" = some false := by decide +kernel
theorem kit_list_int : kitB "int" "list" = some false := by decide +kernel
theorem kit_list_str : kitB "str" "list" = some false := by decide +kernel
theorem kit_list_list : kitB "list" "list" = some true := by decide +kernel
theorem kit_list_tuple : kitB "tuple" "list" = some false := by decide +kernel
theorem kit_list_dict : kitB "dict" "list" = some false := by decide +kernel
def isList : PyData → Bool
  | .list _ => true
  | _ => false
theorem kit_list : ∀ d : PyData, kitB (tyD d) "list" = some (isList d)
  | .none => kit_list_none
  | .bool _ => kit_list_bool
  | .int _ => kit_list_int
  | .str _ => kit_list_str
  | .list _ => kit_list_list
  | .tuple _ => kit_list_tuple
  | .dict _ => kit_list_dict
/-! ### what the top has left of built-ins and constants -/
structure Blt (mg : Str → Option Value) : Prop where
  isi : mg "isinstance" = none
  int : mg "int" = none
  bool : mg "bool" = none
  str : mg "str" = none
  tuple : mg "tuple" = none
  list : mg "list" = none
  len : mg "len" = none
  all : mg "all" = none
  set : mg "set" = none
  range : mg "range" = none
  enumerate : mg "enumerate" = none
structure Cst (mg : Str → Option Value) : Prop where
  num : ∃ t, mg "MOST_NUMBER" = some (.int 999999 t)
  txt : ∃ t, mg "MOST_TEXT" = some (.int 40 t)
  tab : ∃ t, mg "MOST_TABLES" = some (.int 4 t)
  col : ∃ t, mg "MOST_COLUMNS" = some (.int 5 t)
  nam : ∃ t, mg "MOST_NAME" = some (.int 8 t)
  ltr : ∃ t, mg "LETTERS" = some (.str "abcdefghijklmnopqrstuvwxyz" t)
/-- a def of the top: its name, statement, parameters, where it stands -/
structure DefAt (K : PySem.W.Frag) (mg : Str → Option Value) (x : Str) (st : Stmt) (ps : List Str) (f : Addr) (fd : FuncData) : Prop where
  F : Fun K x x st f fd
  b : Binds K fd ps []
  g : mg x = some (.ref f)
section
variable {X : Cx} {a : Expr} {ta : TE}
theorem cr_len : CallR X (.builtin "len") (rLen X.K) := call_len
theorem cr_tupOf : CallR X (.type "tuple") (rTupOf X.K) := call_tuple_of
theorem pe_isi {n : String} {x : Str} {p p2 pos : Pos} (hm : X.mg "isinstance" = none) (hmT : X.mg x = none) (hv : bootBuiltins x = some (.type n)) (ha : PE X a ta) (hg : Gl X "isinstance" := by rfl) (hgT : Gl X x := by rfl)
    (hs1 : starEach [a, .Name x p2] X.env = (false, eval a X.env) :: starEach [.Name x p2] X.env := by rfl) (hs2 : starEach [.Name x p2] X.env = (false, eval (.Name x p2) X.env) :: starEach [] X.env := by rfl)
    (hn : x ≠ "__name__" := by decide) (hd : (x == ("__debug__" : Str)) = false := by decide) (hpl : (backTo pos (starEach [.Name x p2] X.env)).any (·.1) = false := by rfl) :
    PE X (.Call (.Name "isinstance" p) [a, .Name x p2] [] pos) (tCB (rIsi X.K) (tCons ta (tCons (tC (.ty n)) tNil))) :=
  pe_callB call_isi hg hm PyProof.Rows.boot_isinstance (pa_cons ha (pa_cons (pe_bltn hgT hmT hv rfl hn hd) pa_nil hs2) hs1) (by decide) (by decide) hs1 hpl
theorem pe_len {p pos : Pos} (hm : X.mg "len" = none) (ha : PE X a ta) (hg : Gl X "len" := by rfl) (hs1 : starEach [a] X.env = (false, eval a X.env) :: starEach [] X.env := by rfl) :
    PE X (.Call (.Name "len" p) [a] [] pos) (tCB (rLen X.K) (tCons ta tNil)) := pe_callB cr_len hg hm PySem.boot_len (pa_cons ha pa_nil hs1) (by decide) (by decide) hs1 rfl
theorem pe_allL {p pos : Pos} (hc : X.calm = true) (hm : X.mg "all" = none) (ha : PE X a ta) (hg : Gl X "all" := by rfl) (hs1 : starEach [a] X.env = (false, eval a X.env) :: starEach [] X.env := by rfl) :
    PE X (.Call (.Name "all" p) [a] [] pos) (tCB (rAll X.K) (tCons ta tNil)) := pe_callB (cr_all hc) hg hm PyProof.Rows.boot_all (pa_cons ha pa_nil hs1) (by decide) (by decide) hs1 rfl
theorem pe_cInt {x : Str} {i : Int} {pos : Pos} (hm : ∃ t, X.mg x = some (.int i t)) (hg : Gl X x := by rfl) (hd : (x == ("__debug__" : Str)) = false := by decide) : PE X (.Name x pos) (tC (.int i)) := by
  obtain ⟨t, hm⟩ := hm
  exact pe_glob hg hm ⟨t, rfl⟩ hd
theorem pe_cStr {x y : Str} {pos : Pos} (hm : ∃ t, X.mg x = some (.str y t)) (hg : Gl X x := by rfl) (hd : (x == ("__debug__" : Str)) = false := by decide) : PE X (.Name x pos) (tC (.str y)) := by
  obtain ⟨t, hm⟩ := hm
  exact pe_glob hg hm ⟨t, rfl⟩ hd
end
/-! ### the readings of these -/
section
variable {K : PySem.W.Frag} {σ : L2.St} {H : Hp} {ta : TE} {d : PyData}
theorem ev_isInt (ha : EvD K ta σ H d) : Ev (tCB (rIsi K) (tCons ta (tCons (tC (.ty "int")) tNil))) σ H (.bl (isInt d)) := ev_isi ha (kit_int d)
theorem ev_isBool (ha : EvD K ta σ H d) : Ev (tCB (rIsi K) (tCons ta (tCons (tC (.ty "bool")) tNil))) σ H (.bl (isBool d)) := ev_isi ha (kit_bool d)
theorem ev_isStr (ha : EvD K ta σ H d) : Ev (tCB (rIsi K) (tCons ta (tCons (tC (.ty "str")) tNil))) σ H (.bl (isStr d)) := ev_isi ha (kit_str d)
theorem ev_isTup (ha : EvD K ta σ H d) : Ev (tCB (rIsi K) (tCons ta (tCons (tC (.ty "tuple")) tNil))) σ H (.bl (isTuple d)) := ev_isi ha (kit_tuple d)
theorem ev_isLst (ha : EvD K ta σ H d) : Ev (tCB (rIsi K) (tCons ta (tCons (tC (.ty "list")) tNil))) σ H (.bl (isList d)) := ev_isi ha (kit_list d)
end

/-! ### is_number -/
abbrev sNum : Stmt := topS 7
theorem scNum : FnScope ["value", "most"] ["value", "most"] (defScope sNum) := ⟨rfl, rfl, rfl, by decide +kernel, rfl, by decide +kernel, by decide +kernel⟩
/-- value, most: is it a whole number from 0 to most -/
def numF (d m : PyData) : Bool := match d, m with
  | .int i, .int n => decide (0 ≤ i) && decide (i ≤ n)
  | _, _ => false
abbrev spNum (K : PySem.W.Frag) : Sp := spS2 K (fun _ m => ∃ n, m = .int n) (fun d m => .bl (numF d m))
section
variable {P : Program} {w : World} {K : PySem.W.Frag} {mg : Str → Option Value} {base : Heap} {f : Addr} {fd : FuncData}
theorem ok_num (D : DefAt K mg "is_number" sNum ["value", "most"] f fd) (B : Blt mg) : FnOk P w K mg base CX0 1 f fd ["value", "most"] (spNum K) := by
  refine D.F.ok scNum (fun vs H Q E h => ?_) (fun cdv A outer s H vs Q E hr h => ?_)
  · obtain ⟨v, u, d, e, rfl, _⟩ := h
    rfl
  · obtain ⟨v, u, d, e, rfl, hd, he, ⟨n, rfl⟩, k⟩ := h
    refine ⟨_, pss_one (ps_ret (pe_and (pe_isi B.isi B.int PyProof.Rows.boot_int (pv 0)) (pe_and (pe_not (pe_isi B.isi B.bool PyProof.Rows.boot_bool (pv 0))) (pe_one (pe_chain op_le op_le pe_int (pv 0) (pv 1)))))), ?_⟩
    have h0 : EvD K (tVar 0) (start ["value", "most"] [v, u]) H d := ed_var rfl hd
    have h1 : Ev (tVar 1) (start ["value", "most"] [v, u]) H (.int n) := ev_int (ed_var rfl he)
    refine s_ret (v := .bl (numF d (.int n))) ?_ k
    refine ev_is (ev_andV (ev_isInt h0) fun hi => ev_andV (b := numF d (.int n)) (ev_notV (ev_isBool h0)) fun hb => ?_) ?_
    · cases d with
      | int i =>
        have h2 : Ev (tVar 0) (start ["value", "most"] [v, u]) H (.int i) := ev_int h0
        exact ev_chain (a := decide (0 ≤ i)) (b := decide (i ≤ n)) ev_c h2 rv_I0 (fun _ => h1) fun _ => rv_I0
      | bool b => exact absurd hb (by show ¬ (!true) = true; decide)
      | _ => exact absurd hi (by show ¬ false = true; decide)
    · cases d <;> first | rfl | (show V.bl (true && (!false && _)) = _; rfl)
end
/-! ### is_text -/
abbrev sTxt : Stmt := topS 8
theorem scTxt : FnScope ["value", "one"] ["value"] (defScope sTxt) := ⟨rfl, rfl, rfl, by decide +kernel, rfl, by decide +kernel, by decide +kernel⟩
/-- short enough to be looked at -/
def shortD : PyData → Bool
  | .str z => decide (z.length ≤ 1000)
  | _ => true
def signOk (c : Nat) : Bool := !decide (([c] : List Nat) < (" " : Str).cps.toList) && !decide (("~" : Str).cps.toList < ([c] : List Nat))
def textF : PyData → Bool
  | .str z => decide (z.length ≤ 40) && z.cps.toList.all signOk
  | _ => false
abbrev spTxt (K : PySem.W.Frag) : Sp := spS1 K (fun d => shortD d = true) (fun d => .bl (textF d))
theorem all_bls (f : Nat → Bool) (l : List Nat) : (l.map f).all id = l.all f := by rw [List.all_map]; rfl
theorem map_bls (f : Nat → Bool) (l : List Nat) : l.map (fun c => V.bl (f c)) = (l.map f).map V.bl := by rw [List.map_map]; rfl
section
variable {P : Program} {w : World} {K : PySem.W.Frag} {mg : Str → Option Value} {base : Heap} {f : Addr} {fd : FuncData}
theorem ok_txt (D : DefAt K mg "is_text" sTxt ["value"] f fd) (B : Blt mg) (C : Cst mg) : FnOk P w K mg base CX0 1 f fd ["value"] (spTxt K) := by
  refine D.F.ok scTxt (fun vs H Q E h => ?_) (fun cdv A outer s H vs Q E hr h => ?_)
  · obtain ⟨v, d, rfl, _⟩ := h
    rfl
  · obtain ⟨v, d, rfl, hd, hp, k⟩ := h
    refine ⟨_, pss_one (ps_ret (pe_and (pe_isi B.isi B.str PyProof.Rows.boot_str (pv 0)) (pe_and (pe_cmpR op_le (pe_len B.len (pv 0)) (pe_cInt C.txt) (nomark _))
      (pe_one (pe_allL rfl B.all (pe_lc (own := [("one", 1)]) (g := gName 1) (tt := tYes) rfl scTxt.nd (pi_str (pv 0)) (blkOk_by (N := ["value", "one"]) (sc := defScope sTxt) (by decide +kernel)) (fun _ _ _ _ _ => pg_name (i := 1) scTxt.nd rfl (Or.inl rfl)) (fun _ _ _ _ _ => pts_nil)
        (fun _ _ _ _ _ => pe_chain op_le_str op_le_str pe_str (pv 1) pe_str))))))), ?_⟩
    have h0 : EvD K (tVar 0) (start ["value", "one"] [v]) H d := ed_var rfl hd
    refine s_ret (v := .bl (textF d)) ?_ k
    refine ev_is (ev_andV (ev_isStr h0) (b := textF d) fun hi => ?_) ?_
    · cases d with
      | str z =>
        have hz : z.length ≤ 1000 := of_decide_eq_true hp
        have hz2 : z.length ≤ 100000 := by omega
        have hv : Ev (tVar 0) (start ["value", "one"] [v]) H (.str z) := ev_str h0
        refine ev_is (ev_andV (a := decide (((z.length : Nat) : Int) ≤ 40)) (b := z.cps.toList.all signOk) (ev_op (ev_lenD h0 (n := z.length) (if_pos hz2)) ev_c rv_I0) fun _ => ?_) ?_
        · refine ev_is (ev_all (bs := z.cps.toList.map signOk) (el_lcS (fun c => .bl (signOk c)) hv (by omega) (fun _ => rfl) fun c H1 e1 => ?_) (map_bls _ _)) (by rw [all_bls])
          have hc : Ev (tVar 1) ((wipe (start ["value", "one"] [v]) [1]).set 1 (some (.str ⟨#[c]⟩))) H1 (.str ⟨#[c]⟩) := ev_var rfl
          exact ev_chain (y := .str ⟨#[c]⟩) (z := .str "~") ev_c hc (fun H2 e2 Q q => ⟨_, _, rfl, rfl, q H2 (Ex.refl H2)⟩) (fun _ => ev_c) (fun _ H2 e2 Q q => ⟨_, _, rfl, rfl, q H2 (Ex.refl H2)⟩)
        · have e1 : decide (((z.length : Nat) : Int) ≤ 40) = decide (z.length ≤ 40) := decide_eq_decide.mpr (by omega)
          rw [e1]
          rfl
      | _ => exact absurd hi (by show ¬ false = true; decide)
    · cases d <;> rfl
end

/-! ### kind_of -/
abbrev sKind : Stmt := topS 9
theorem scKind : FnScope ["value"] ["value"] (defScope sKind) := ⟨rfl, rfl, rfl, by decide +kernel, rfl, by decide +kernel, by decide +kernel⟩
def kindV (d : PyData) : V := if numF d (.int 999999) = true then .str "number" else if textF d = true then .str "text" else .non
abbrev spKind (K : PySem.W.Frag) : Sp := spS1 K (fun d => shortD d = true) kindV
section
variable {P : Program} {w : World} {K : PySem.W.Frag} {mg : Str → Option Value} {base : Heap} {f f1 f2 : Addr} {fd fd1 fd2 : FuncData}
theorem ok_kind (D : DefAt K mg "kind_of" sKind ["value"] f fd) (D1 : DefAt K mg "is_number" sNum ["value", "most"] f1 fd1) (D2 : DefAt K mg "is_text" sTxt ["value"] f2 fd2) (B : Blt mg) (C : Cst mg) : FnOk P w K mg base CX0 2 f fd ["value"] (spKind K) := by
  have G1 : FnOk P w K mg base CX0 1 f1 fd1 ["value", "most"] (spNum K) := ok_num D1 B
  have G2 : FnOk P w K mg base CX0 1 f2 fd2 ["value"] (spTxt K) := ok_txt D2 B C
  refine D.F.ok scKind (fun vs H Q E h => ?_) (fun cdv A outer s H vs Q E hr h => ?_)
  · obtain ⟨v, d, rfl, _⟩ := h
    rfl
  · obtain ⟨v, d, rfl, hd, hp, k⟩ := h
    refine ⟨_, pss_cons (ps_if (pt_val (pe_call G1 hr rfl D1.g D1.F.kp D1.b .nil pass0 (pa_cons (pv 0) (pa_cons (pe_cInt C.num) pa_nil)))) (pss_one (ps_ret pe_str)) pss_nil)
      (pss_cons (ps_if (pt_val (pe_call G2 hr rfl D2.g D2.F.kp D2.b .nil pass0 (pa_cons (pv 0) pa_nil))) (pss_one (ps_ret pe_str)) pss_nil)
      (pss_one (ps_ret pe_non))), ?_⟩
    have h0 : EvD K (tVar 0) (start ["value"] [v]) H d := ed_var rfl hd
    refine q_when (et_B (ev_call2 (f := fun d m => .bl (numF d m)) h0 (ed_int (i := 999999) ev_c) ⟨_, rfl⟩)) (fun hb H1 e1 => ?_) (fun hb H1 e1 => ?_)
    · refine s_ret (v := .str "number") ev_c fun H2 e2 => ?_
      have q := k H2 (e1.trans e2)
      unfold kindV at q
      rw [if_pos hb] at q
      exact q
    · refine q_when (et_B (ev_call1 (f := fun d => .bl (textF d)) (h0.mono e1) hp)) (fun hb2 H2 e2 => ?_) (fun hb2 H2 e2 => ?_)
      · refine s_ret (v := .str "text") ev_c fun H3 e3 => ?_
        have q := k H3 ((e1.trans e2).trans e3)
        unfold kindV at q
        rw [if_neg (by rw [hb]; decide), if_pos hb2] at q
        exact q
      · refine s_ret (v := .non) ev_c fun H3 e3 => ?_
        have q := k H3 ((e1.trans e2).trans e3)
        unfold kindV at q
        rw [if_neg (by rw [hb]; decide), if_neg (by rw [hb2]; decide)] at q
        exact q
end

/-! ### is_name -/
abbrev sName : Stmt := topS 15
theorem scName : FnScope ["value", "one"] ["value"] (defScope sName) := ⟨rfl, rfl, rfl, by decide +kernel, rfl, by decide +kernel, by decide +kernel⟩
def letters : Str := "abcdefghijklmnopqrstuvwxyz"
def letOk (c : Nat) : Bool := decide (c ∈ letters.cps.toList)
def nameF : PyData → Bool
  | .str z => (decide (1 ≤ z.length) && decide (z.length ≤ 8)) && z.cps.toList.all letOk
  | _ => false
abbrev spName (K : PySem.W.Frag) : Sp := spS1 K (fun d => shortD d = true) (fun d => .bl (nameF d))
section
variable {P : Program} {w : World} {K : PySem.W.Frag} {mg : Str → Option Value} {base : Heap} {f : Addr} {fd : FuncData}
theorem ok_name (D : DefAt K mg "is_name" sName ["value"] f fd) (B : Blt mg) (C : Cst mg) : FnOk P w K mg base CX0 1 f fd ["value"] (spName K) := by
  refine D.F.ok scName (fun vs H Q E h => ?_) (fun cdv A outer s H vs Q E hr h => ?_)
  · obtain ⟨v, d, rfl, _⟩ := h
    rfl
  · obtain ⟨v, d, rfl, hd, hp, k⟩ := h
    refine ⟨_, pss_one (ps_ret (pe_and (pe_isi B.isi B.str PyProof.Rows.boot_str (pv 0)) (pe_and (pe_chain op_le op_le pe_int (pe_len B.len (pv 0)) (pe_cInt C.nam))
      (pe_one (pe_allL rfl B.all (pe_lc (own := [("one", 1)]) (g := gName 1) (tt := tYes) rfl scName.nd (pi_str (pv 0)) (blkOk_by (N := ["value", "one"]) (sc := defScope sName) (by decide +kernel)) (fun _ _ _ _ _ => pg_name (i := 1) scName.nd rfl (Or.inl rfl)) (fun _ _ _ _ _ => pts_nil)
        (fun _ _ _ _ _ => pe_cmpR op_inS (pv 1) (pe_cStr C.ltr) rfl))))))), ?_⟩
    have h0 : EvD K (tVar 0) (start ["value", "one"] [v]) H d := ed_var rfl hd
    refine s_ret (v := .bl (nameF d)) ?_ k
    refine ev_is (ev_andV (ev_isStr h0) (b := nameF d) fun hi => ?_) ?_
    · cases d with
      | str z =>
        have hz : z.length ≤ 1000 := of_decide_eq_true hp
        have hz2 : z.length ≤ 100000 := by omega
        have hv : Ev (tVar 0) (start ["value", "one"] [v]) H (.str z) := ev_str h0
        have hl := ev_lenD h0 (n := z.length) (if_pos hz2)
        refine ev_is (ev_andV (b := z.cps.toList.all letOk) (ev_chain (a := decide ((1 : Int) ≤ ((z.length : Nat) : Int))) (b := decide (((z.length : Nat) : Int) ≤ 8)) ev_c hl rv_I0 (fun _ => ev_c) fun _ => rv_I0) fun _ => ?_) ?_
        · refine ev_is (ev_all (bs := z.cps.toList.map letOk) (el_lcS (fun c => .bl (letOk c)) hv (by omega) (fun _ => rfl) fun c H1 e1 => ?_) (map_bls _ _)) (by rw [all_bls])
          have hc : Ev (tVar 1) ((wipe (start ["value", "one"] [v]) [1]).set 1 (some (.str ⟨#[c]⟩))) H1 (.str ⟨#[c]⟩) := ev_var rfl
          exact ev_op hc ev_c fun H2 e2 Q q => ⟨c, letters, rfl, rfl, q H2 (Ex.refl H2)⟩
        · have e1 : decide (((z.length : Nat) : Int) ≤ 8) = decide (z.length ≤ 8) := decide_eq_decide.mpr (by omega)
          have e2 : decide ((1 : Int) ≤ ((z.length : Nat) : Int)) = decide (1 ≤ z.length) := decide_eq_decide.mpr (by omega)
          rw [e1, e2]
          rfl
      | _ => exact absurd hi (by show ¬ false = true; decide)
    · cases d <;> rfl
end

/-! ### are_unlike -/
abbrev sUnl : Stmt := topS 16
theorem scUnl : FnScope ["names"] ["names"] (defScope sUnl) := ⟨rfl, rfl, rfl, by decide +kernel, rfl, by decide +kernel, by decide +kernel⟩
def strOf : PyData → Str
  | .str x => x
  | _ => Str.empty
def strsOf : PyData → List Str
  | .list ds => ds.map strOf
  | .tuple ds => ds.map strOf
  | _ => []
theorem strs_map (xs : List Str) : (xs.map PyData.str).map strOf = xs := by
  rw [List.map_map]
  have h : (strOf ∘ PyData.str) = id := rfl
  rw [h, List.map_id]
/-- a list or a tuple of a few texts -/
def Names (d : PyData) : Prop := ∃ xs : List Str, xs.length ≤ 1000 ∧ (d = .list (xs.map .str) ∨ d = .tuple (xs.map .str))
def unlikeF (d : PyData) : Bool := decide ((meets (strsOf d)).length = (strsOf d).length)
abbrev spUnl (K : PySem.W.Frag) : Sp := spS1 K Names (fun d => .bl (unlikeF d))
section
variable {P : Program} {w : World} {K : PySem.W.Frag} {mg : Str → Option Value} {base : Heap} {f : Addr} {fd : FuncData}
theorem ok_unl (D : DefAt K mg "are_unlike" sUnl ["names"] f fd) (B : Blt mg) : FnOk P w K mg base CX0 1 f fd ["names"] (spUnl K) := by
  refine D.F.ok scUnl (fun vs H Q E h => ?_) (fun cdv A outer s H vs Q E hr h => ?_)
  · obtain ⟨v, d, rfl, _⟩ := h
    rfl
  · obtain ⟨v, d, rfl, hd, ⟨xs, hl, hx⟩, k⟩ := h
    refine ⟨_, pss_one (ps_ret (pe_cmpR op_eq (pe_lenSetT rfl rfl B.len rfl B.set (pv 0)) (pe_len B.len (pv 0)) (nomark _))), ?_⟩
    have h0 : EvD K (tVar 0) (start ["names"] [v]) H d := ed_var rfl hd
    have es : strsOf d = xs := by rcases hx with rfl | rfl <;> exact strs_map xs
    have ln : lenD d = some xs.length := by rcases hx with rfl | rfl <;> (show some _ = some _; rw [List.length_map])
    refine s_ret (v := .bl (unlikeF d)) ?_ k
    refine ev_eq (ev_lenSet h0 hx hl) (ev_lenD h0 ln) rfl ?_
    unfold unlikeF
    rw [es]
    refine decide_eq_decide.mpr ⟨fun z => ?_, fun z => by rw [z]⟩
    have z2 := V.int.inj z
    omega
end
end K43
/-! is_column, are_columns, is_table, check_schema. -/
namespace K43
open PySem L2 Evl
/-- a value that is no object -/
def flatD : PyData → Bool
  | .none => true
  | .bool _ => true
  | .int _ => true
  | .str _ => true
  | _ => false
def vOf : PyData → V
  | .bool b => .bl b
  | .int i => .int i
  | .str x => .str x
  | _ => .non
theorem dp_flat {K : PySem.W.Frag} {H : Hp} {v : V} {d : PyData} (h : Dp K H v d) (f : flatD d = true) : v = vOf d := by
  cases h with
  | lst _ _ => exact absurd f Bool.false_ne_true
  | tup _ _ => exact absurd f Bool.false_ne_true
  | _ => rfl
theorem flat_v {d : PyData} (f : flatD d = true) : flatV (vOf d) = true := by
  cases d <;> first | rfl | exact absurd f Bool.false_ne_true
theorem tup_of {d : PyData} (h : isTuple d = true) : ∃ ds, d = .tuple ds := by
  cases d with
  | tuple ds => exact ⟨ds, rfl⟩
  | _ => exact absurd h Bool.false_ne_true
theorem rt_bl {Q : VK} {H : Hp} {b c : Bool} (q : Q (.bl b) H) (e : b = c) : Q (.bl c) H := e ▸ q
/-! ### is_column -/
abbrev sCol : Stmt := topS 17
theorem scCol : FnScope ["column"] ["column"] (defScope sCol) := ⟨rfl, rfl, rfl, by decide +kernel, rfl, by decide +kernel, by decide +kernel⟩
def kindIs (b : PyData) : Bool := inV (vOf b) [.str "number", .str "text"]
def colF : PyData → Bool
  | .tuple [a, b] => nameF a && kindIs b
  | _ => false
def colPre : PyData → Bool
  | .tuple [a, b] => shortD a && flatD b
  | _ => true
theorem colF_len {ds : List PyData} (h : ds.length ≠ 2) : colF (.tuple ds) = false := by
  match ds, h with
  | [], _ => rfl
  | [_], _ => rfl
  | [_, _], h => exact absurd rfl h
  | _ :: _ :: _ :: _, _ => rfl
theorem colF_no {d : PyData} (h : isTuple d = false) : colF d = false := by
  cases d with
  | tuple ds => cases h
  | _ => rfl
theorem len2 {α : Type} {ds : List α} (h : ds.length = 2) : ∃ a b, ds = [a, b] := by
  match ds, h with
  | [a, b], _ => exact ⟨a, b, rfl⟩
abbrev spCol (K : PySem.W.Frag) : Sp := spS1 K (fun d => colPre d = true) (fun d => .bl (colF d))
section
variable {P : Program} {w : World} {K : PySem.W.Frag} {mg : Str → Option Value} {base : Heap} {f f1 : Addr} {fd fd1 : FuncData}
theorem ok_col (D : DefAt K mg "is_column" sCol ["column"] f fd) (D1 : DefAt K mg "is_name" sName ["value"] f1 fd1) (B : Blt mg) (C : Cst mg) : FnOk P w K mg base CX0 2 f fd ["column"] (spCol K) := by
  have G1 : FnOk P w K mg base CX0 1 f1 fd1 ["value"] (spName K) := ok_name D1 B C
  refine D.F.ok scCol (fun vs H Q E h => ?_) (fun cdv A outer s H vs Q E hr h => ?_)
  · obtain ⟨v, d, rfl, _⟩ := h
    rfl
  · obtain ⟨v, d, rfl, hd, hp, k⟩ := h
    refine ⟨_, pss_cons (ps_if (pw_or (pt_not (pt_val (pe_isi B.isi B.tuple PyProof.Rows.boot_tuple (pv 0)))) (pw_or1 (pt_cmpR op_ne (pe_len B.len (pv 0)) pe_int (nomark _)))).pt (pss_one (ps_ret pe_bl)) pss_nil)
      (pss_one (ps_ret (pe_and (pe_call G1 hr rfl D1.g D1.F.kp D1.b .nil pass0 (pa_cons (pe_ix ix_tup (pv 0) pe_int (fun _ _ => rfl)) pa_nil)) (pe_one (pe_cmpR op_in_seq (pe_ix ix_tup (pv 0) pe_int (fun _ _ => rfl)) (pe_tup (pa_cons pe_str (pa_cons pe_str pa_nil))) rfl))))), ?_⟩
    have h0 : EvD K (tVar 0) (start ["column"] [v]) H d := ed_var rfl hd
    by_cases hT : isTuple d = true
    · obtain ⟨ds, rfl⟩ := tup_of hT
      refine q_when (b := !decide (ds.length = 2)) (et_is (et_or (et_not (et_B (ev_isTup h0))) fun _ => et_test (ev_ne (b := !decide (ds.length = 2)) (ev_lenD h0 (n := ds.length) rfl) (ev_c (v := .int 2)) rfl ?_)) ?_) (fun hb H1 e1 => ?_) (fun hb H1 e1 => ?_)
      · refine congrArg Bool.not (decide_eq_decide.mpr ⟨fun z => ?_, fun z => by rw [z]; rfl⟩)
        have z2 := V.int.inj z
        omega
      · rfl
      · refine s_ret (v := .bl false) ev_c fun H2 e2 => ?_
        exact rt_bl (k H2 (e1.trans e2)) (colF_len (by simpa using hb))
      · have hl : ds.length = 2 := by simpa using hb
        obtain ⟨a, b, rfl⟩ := len2 hl
        have pa : shortD a = true := (Bool.and_eq_true_iff.mp hp).1
        have pb : flatD b = true := (Bool.and_eq_true_iff.mp hp).2
        have h1 := h0.mono e1
        refine s_ret (v := .bl (colF (.tuple [a, b]))) ?_ fun H2 e2 => k H2 (e1.trans e2)
        refine ev_andV (b := kindIs b) (ev_call1 (f := fun d => .bl (nameF d)) (ed_ixT h1 (ev_c (v := .int 0)) rfl) pa) fun _ => ?_
        have h2 : Ev (tOp (rIxT K) (tVar 0) (tC (.int 1))) (start ["column"] [v]) H1 (vOf b) := ev_of (ed_ixT h1 (ev_c (v := .int 1)) rfl) fun hd => dp_flat hd pb
        exact ev_inU h2 (eu_tup (ea_cons ev_c (ea_cons ev_c ea_nil)) (by decide)) (flat_v pb) rfl
    · have hT' : isTuple d = false := by simpa using hT
      refine q_when (b := true) (et_is (b := true) (et_or (b := true) (et_not (et_B (ev_isTup h0))) fun hz => ?_) ?_) (fun _ H1 e1 => ?_) (fun hb _ _ => absurd hb (by decide))
      · rw [hT'] at hz
        cases hz
      · rw [hT']
        rfl
      · refine s_ret (v := .bl false) ev_c fun H2 e2 => ?_
        exact rt_bl (k H2 (e1.trans e2)) (colF_no hT')
end
/-! ### are_columns -/
abbrev sCols : Stmt := topS 18
theorem scCols : FnScope ["columns", "column"] ["columns"] (defScope sCols) := ⟨rfl, rfl, rfl, by decide +kernel, rfl, by decide +kernel, by decide +kernel⟩
def firstS : PyData → Str
  | .tuple (a :: _) => strOf a
  | _ => Str.empty
/-- the list of the first items' texts -/
def firsts (ds : List PyData) : PyData := .list ((ds.map firstS).map .str)
def sizeIs (n m : Nat) : Bool := decide (1 ≤ n) && decide (n ≤ m)
def colsF : PyData → Bool
  | .tuple cs => sizeIs cs.length 5 && (cs.all colF && unlikeF (firsts cs))
  | _ => false
def colsPre : PyData → Bool
  | .tuple cs => cs.all colPre
  | _ => true
abbrev spCols (K : PySem.W.Frag) : Sp := spS1 K (fun d => colsPre d = true) (fun d => .bl (colsF d))
theorem size_ev {K : PySem.W.Frag} {σ : L2.St} {H : Hp} {ta tb : TE} {n m : Nat} (h : Ev ta σ H (.int (n : Nat))) (h2 : Ev tb σ H (.int (m : Nat))) : Ev (tChain (rI0 fun i j => .bl (decide (i ≤ j))) (rI0 fun i j => .bl (decide (i ≤ j))) (tC (.int 1)) ta tb) σ H (.bl (sizeIs n m)) := by
  have e1 : decide (1 ≤ n) = decide ((1 : Int) ≤ ((n : Nat) : Int)) := decide_eq_decide.mpr (by omega)
  have e2 : decide (n ≤ m) = decide (((n : Nat) : Int) ≤ ((m : Nat) : Int)) := decide_eq_decide.mpr (by omega)
  unfold sizeIs
  rw [e1, e2]
  exact ev_chain ev_c h rv_I0 (fun _ => h2) fun _ => rv_I0
theorem map_blD (f : PyData → Bool) (l : List PyData) : l.map (fun d => V.bl (f d)) = (l.map f).map V.bl := by rw [List.map_map]; rfl
theorem all_blD (f : PyData → Bool) (l : List PyData) : (l.map f).all id = l.all f := by rw [List.all_map]; rfl
theorem name_str {d : PyData} (h : nameF d = true) : ∃ z, d = .str z := by
  cases d with
  | str z => exact ⟨z, rfl⟩
  | _ => cases h
theorem colF_str {d : PyData} (h : colF d = true) : ∃ z b, d = .tuple [.str z, b] := by
  cases d with
  | tuple ds =>
    by_cases hl : ds.length = 2
    · obtain ⟨a, b, rfl⟩ := len2 hl
      obtain ⟨z, rfl⟩ := name_str (Bool.and_eq_true_iff.mp h).1
      exact ⟨z, b, rfl⟩
    · rw [colF_len hl] at h
      cases h
  | _ => cases h
section
variable {P : Program} {w : World} {K : PySem.W.Frag} {mg : Str → Option Value} {base : Heap} {f f1 f2 f3 : Addr} {fd fd1 fd2 fd3 : FuncData}
theorem ok_cols (D : DefAt K mg "are_columns" sCols ["columns"] f fd) (D1 : DefAt K mg "is_column" sCol ["column"] f1 fd1) (D2 : DefAt K mg "is_name" sName ["value"] f2 fd2) (D3 : DefAt K mg "are_unlike" sUnl ["names"] f3 fd3) (B : Blt mg) (C : Cst mg) : FnOk P w K mg base CX0 3 f fd ["columns"] (spCols K) := by
  have G1 : FnOk P w K mg base CX0 2 f1 fd1 ["column"] (spCol K) := ok_col D1 D2 B C
  have G3 : FnOk P w K mg base CX0 1 f3 fd3 ["names"] (spUnl K) := ok_unl D3 B
  refine D.F.ok scCols (fun vs H Q E h => ?_) (fun cdv A outer s H vs Q E hr h => ?_)
  · obtain ⟨v, d, rfl, _⟩ := h
    rfl
  · obtain ⟨v, d, rfl, hd, hp, k⟩ := h
    have hr1 : Room 1 _ := hr.mono (by decide)
    refine ⟨_, pss_cons (ps_if (pw_or (pt_not (pt_val (pe_isi B.isi B.tuple PyProof.Rows.boot_tuple (pv 0)))) (pw_or1 (pt_not (pt_chain op_le op_le pe_int (pe_len B.len (pv 0)) (pe_cInt C.col))))).pt (pss_one (ps_ret pe_bl)) pss_nil)
      (pss_one (ps_ret (pe_and
        (pe_allL rfl B.all (pe_lc (own := [("column", 1)]) (g := gName 1) (tt := tYes) rfl scCols.nd (pi_tup (pv 0)) (blkOk_by (N := ["columns", "column"]) (sc := defScope sCols) (by decide +kernel)) (fun _ _ _ _ _ => pg_name (i := 1) scCols.nd rfl (Or.inl rfl)) (fun _ _ _ _ _ => pts_nil)
          (fun _ _ _ _ _ => pe_call G1 hr rfl D1.g D1.F.kp D1.b .nil pass0 (pa_cons (pv 1) pa_nil))))
        (pe_one (pe_call G3 hr1 rfl D3.g D3.F.kp D3.b .nil pass0 (pa_cons (pe_lc (own := [("column", 1)]) (g := gName 1) (tt := tYes) rfl scCols.nd (pi_tup (pv 0)) (blkOk_by (N := ["columns", "column"]) (sc := defScope sCols) (by decide +kernel)) (fun _ _ _ _ _ => pg_name (i := 1) scCols.nd rfl (Or.inl rfl)) (fun _ _ _ _ _ => pts_nil)
          (fun _ _ _ _ _ => pe_ix (r := rIxT K) ix_tup (pv 1) pe_int (fun _ _ => rfl))) pa_nil)))))), ?_⟩
    have h0 : EvD K (tVar 0) (start ["columns", "column"] [v]) H d := ed_var rfl hd
    by_cases hT : isTuple d = true
    · obtain ⟨cs, rfl⟩ := tup_of hT
      refine q_when (b := !sizeIs cs.length 5) (et_is (et_or (et_not (et_B (ev_isTup h0))) fun _ => et_not (et_test (size_ev (K := K) (n := cs.length) (m := 5) (ev_lenD h0 rfl) ev_c))) ?_) (fun hb H1 e1 => ?_) (fun hb H1 e1 => ?_)
      · rfl
      · refine s_ret (v := .bl false) ev_c fun H2 e2 => ?_
        have z : colsF (.tuple cs) = false := by
          show (sizeIs cs.length 5 && _) = false
          rw [show sizeIs cs.length 5 = false by simpa using hb] <;> rfl
        exact rt_bl (k H2 (e1.trans e2)) z
      · have hs : sizeIs cs.length 5 = true := by simpa using hb
        have hl : cs.length ≤ 5 := of_decide_eq_true (Bool.and_eq_true_iff.mp hs).2
        have h1 := h0.mono e1
        have pre : ∀ c ∈ cs, colPre c = true := List.all_eq_true.mp hp
        refine s_ret (v := .bl (colsF (.tuple cs))) ?_ fun H2 e2 => k H2 (e1.trans e2)
        have ec : colsF (.tuple cs) = (cs.all colF && unlikeF (firsts cs)) := by
          show (sizeIs cs.length 5 && _) = _
          rw [hs]
          rfl
        rw [ec]
        refine ev_andV (ev_is (ev_all (bs := cs.map colF) (el_lcT (fun d => .bl (colF d)) h1 (by omega) (fun _ => rfl) fun x d H2 e2 hm hx => ?_) (map_blD _ _)) (by rw [all_blD])) fun hall => ?_
        · exact ev_call1 (f := fun d => .bl (colF d)) (ed_var rfl hx) (pre d hm)
        · have hcol : ∀ c ∈ cs, colF c = true := List.all_eq_true.mp hall
          refine ev_call1 (f := fun d => .bl (unlikeF d)) (ed_ofL (ds := (cs.map firstS).map .str) (el_lcT (fun d => .str (firstS d)) h1 (by omega) (fun _ => rfl) fun x d H2 e2 hm hx => ?_) fun H3 => ?_) ⟨cs.map firstS, by rw [List.length_map]; omega, .inl rfl⟩
          · obtain ⟨z, b, rfl⟩ := colF_str (hcol d hm)
            exact ev_str (ed_ixT (ed_var rfl hx) (ev_c (v := .int 0)) rfl)
          · have em : cs.map (fun d => V.str (firstS d)) = (cs.map firstS).map V.str := by rw [List.map_map]; rfl
            rw [em]
            exact dpa_of_strs _
    · have hT' : isTuple d = false := by simpa using hT
      refine q_when (b := true) (et_is (b := true) (et_or (b := true) (et_not (et_B (ev_isTup h0))) fun hz => ?_) ?_) (fun _ H1 e1 => ?_) (fun hb _ _ => absurd hb (by decide))
      · rw [hT'] at hz
        cases hz
      · rw [hT']
        rfl
      · refine s_ret (v := .bl false) ev_c fun H2 e2 => ?_
        have z : colsF d = false := by
          cases d with
          | tuple _ => cases hT'
          | _ => rfl
        exact rt_bl (k H2 (e1.trans e2)) z
end
end K43
/-! is_table, check_schema. -/
namespace K43
open PySem L2 Evl
/-! ### is_table -/
abbrev sTab : Stmt := topS 19
theorem scTab : FnScope ["table"] ["table"] (defScope sTab) := ⟨rfl, rfl, rfl, by decide +kernel, rfl, by decide +kernel, by decide +kernel⟩
def tabF : PyData → Bool
  | .tuple [a, b] => nameF a && colsF b
  | _ => false
def tabPre : PyData → Bool
  | .tuple [a, b] => shortD a && colsPre b
  | _ => true
theorem tabF_len {ds : List PyData} (h : ds.length ≠ 2) : tabF (.tuple ds) = false := by
  match ds, h with
  | [], _ => rfl
  | [_], _ => rfl
  | [_, _], h => exact absurd rfl h
  | _ :: _ :: _ :: _, _ => rfl
theorem tabF_str {d : PyData} (h : tabF d = true) : ∃ z b, d = .tuple [.str z, b] := by
  cases d with
  | tuple ds =>
    by_cases hl : ds.length = 2
    · obtain ⟨a, b, rfl⟩ := len2 hl
      obtain ⟨z, rfl⟩ := name_str (Bool.and_eq_true_iff.mp h).1
      exact ⟨z, b, rfl⟩
    · rw [tabF_len hl] at h
      cases h
  | _ => cases h
abbrev spTab (K : PySem.W.Frag) : Sp := spS1 K (fun d => tabPre d = true) (fun d => .bl (tabF d))
section
variable {P : Program} {w : World} {K : PySem.W.Frag} {mg : Str → Option Value} {base : Heap} {f f1 f2 f3 f4 : Addr} {fd fd1 fd2 fd3 fd4 : FuncData}
theorem ok_tab (D : DefAt K mg "is_table" sTab ["table"] f fd) (D0 : DefAt K mg "are_columns" sCols ["columns"] f4 fd4) (D1 : DefAt K mg "is_column" sCol ["column"] f1 fd1) (D2 : DefAt K mg "is_name" sName ["value"] f2 fd2) (D3 : DefAt K mg "are_unlike" sUnl ["names"] f3 fd3) (B : Blt mg) (C : Cst mg) :
    FnOk P w K mg base CX0 4 f fd ["table"] (spTab K) := by
  have G1 : FnOk P w K mg base CX0 1 f2 fd2 ["value"] (spName K) := ok_name D2 B C
  have G2 : FnOk P w K mg base CX0 3 f4 fd4 ["columns"] (spCols K) := ok_cols D0 D1 D2 D3 B C
  refine D.F.ok scTab (fun vs H Q E h => ?_) (fun cdv A outer s H vs Q E hr h => ?_)
  · obtain ⟨v, d, rfl, _⟩ := h
    rfl
  · obtain ⟨v, d, rfl, hd, hp, k⟩ := h
    have hr1 : Room 1 _ := hr.mono (by decide)
    refine ⟨_, pss_one (ps_ret (pe_and (pe_isi B.isi B.tuple PyProof.Rows.boot_tuple (pv 0)) (pe_and (pe_cmpR op_eq (pe_len B.len (pv 0)) pe_int (nomark _))
      (pe_and (pe_call G1 hr1 rfl D2.g D2.F.kp D2.b .nil pass0 (pa_cons (pe_ix ix_tup (pv 0) pe_int (fun _ _ => rfl)) pa_nil)) (pe_one (pe_call G2 hr rfl D0.g D0.F.kp D0.b .nil pass0 (pa_cons (pe_ix ix_tup (pv 0) pe_int (fun _ _ => rfl)) pa_nil))))))), ?_⟩
    have h0 : EvD K (tVar 0) (start ["table"] [v]) H d := ed_var rfl hd
    refine s_ret (v := .bl (tabF d)) ?_ k
    refine ev_is (ev_andV (b := tabF d) (ev_isTup h0) fun hT => ?_) ?_
    · obtain ⟨ds, rfl⟩ := tup_of hT
      refine ev_is (ev_andV (a := decide (ds.length = 2)) (b := tabF (.tuple ds)) (ev_eq (ev_lenD h0 (n := ds.length) rfl) (ev_c (v := .int 2)) rfl ?_) fun hl => ?_) ?_
      · refine decide_eq_decide.mpr ⟨fun z => ?_, fun z => by rw [z]; rfl⟩
        have z2 := V.int.inj z
        omega
      · obtain ⟨a, b, rfl⟩ := len2 (of_decide_eq_true hl)
        have pa : shortD a = true := (Bool.and_eq_true_iff.mp hp).1
        have pb : colsPre b = true := (Bool.and_eq_true_iff.mp hp).2
        exact ev_andV (a := nameF a) (b := colsF b) (ev_call1 (f := fun d => .bl (nameF d)) (ed_ixT h0 (ev_c (v := .int 0)) rfl) pa) fun _ => ev_call1 (f := fun d => .bl (colsF d)) (ed_ixT h0 (ev_c (v := .int 1)) rfl) pb
      · by_cases hl : ds.length = 2
        · rw [decide_eq_true hl]
          rfl
        · rw [decide_eq_false hl, tabF_len hl]
          rfl
    · cases d <;> rfl
end
/-! ### check_schema -/
abbrev sChk : Stmt := topS 20
theorem scChk : FnScope ["schema", "table"] ["schema"] (defScope sChk) := ⟨rfl, rfl, rfl, by decide +kernel, rfl, by decide +kernel, by decide +kernel⟩
def schF : PyData → Bool
  | .tuple ts => sizeIs ts.length 4 && (ts.all tabF && unlikeF (firsts ts))
  | _ => false
def schPre : PyData → Bool
  | .tuple ts => ts.all tabPre
  | _ => true
/-- None for a schema; else InvalidArgument, its name "schema" -/
def spChk (K : PySem.W.Frag) (C : Addr) : Sp := fun vs H Q E => ∃ v d, vs = [v] ∧ Dp K H v d ∧ schPre d = true ∧ (schF d = true → ∀ H', Ex H H' → Q .non H') ∧
  (schF d = false → ∀ (dd : Addr) (H' : Hp), Ex H H' → H' dd = some (.xd [(("name" : Str), .str "schema")]) → E (.ref C) (some dd) H')
section
variable {P : Program} {w : World} {K : PySem.W.Frag} {mg : Str → Option Value} {base : Heap} {f f0 f1 f2 f3 f4 Ci fI : Addr} {fd fd0 fd1 fd2 fd3 fd4 : FuncData}
theorem ok_chk (D : DefAt K mg "check_schema" sChk ["schema"] f fd) (D4 : DefAt K mg "is_table" sTab ["table"] f4 fd4) (D0 : DefAt K mg "are_columns" sCols ["columns"] f0 fd0) (D1 : DefAt K mg "is_column" sCol ["column"] f1 fd1) (D2 : DefAt K mg "is_name" sName ["value"] f2 fd2) (D3 : DefAt K mg "are_unlike" sUnl ["names"] f3 fd3)
    (B : Blt mg) (C : Cst mg) (T : InvTxt P K mg Ci fI) : FnOk P w K mg base (L2.CX P w) 5 f fd ["schema"] (spChk K Ci) := by
  have G4 : FnOk P w K mg base CX0 4 f4 fd4 ["table"] (spTab K) := ok_tab D4 D0 D1 D2 D3 B C
  have G3 : FnOk P w K mg base CX0 1 f3 fd3 ["names"] (spUnl K) := ok_unl D3 B
  refine D.F.okX scChk (fun vs H Q E h => ?_) (fun cdv A outer s H vs Q E hr h => ?_)
  · obtain ⟨v, d, rfl, _⟩ := h
    rfl
  · obtain ⟨v, d, rfl, hd, hp, ky, kn⟩ := h
    have hr1 : Room 1 _ := hr.mono (by decide)
    refine ⟨_, pss_cons (ps_if (pw_or (pt_not (pt_val (pe_isi B.isi B.tuple PyProof.Rows.boot_tuple (pv 0)))) (pw_or1 (pt_not (pt_chain op_le op_le pe_int (pe_len B.len (pv 0)) (pe_cInt C.tab))))).pt (pss_one (ps_raiseInv rfl T hr (takes_of rfl rfl rfl rfl) (by exact (pa_cons pe_str pa_nil)))) pss_nil)
      (pss_one (ps_if (PW.pt (pw_or (pt_not (pt_val (pe_allL rfl B.all (pe_lc (own := [("table", 1)]) (g := gName 1) (tt := tYes) rfl scChk.nd (pi_tup (pv 0)) (blkOk_by (N := ["schema", "table"]) (sc := defScope sChk) (by decide +kernel)) (fun _ _ _ _ _ => pg_name (i := 1) scChk.nd rfl (Or.inl rfl)) (fun _ _ _ _ _ => pts_nil)
          (fun _ _ _ _ _ => pe_call G4 hr rfl D4.g D4.F.kp D4.b .nil pass0 (pa_cons (pv 1) pa_nil))))))
        (pw_or1 (pt_not (pt_val (pe_call G3 hr1 rfl D3.g D3.F.kp D3.b .nil pass0 (pa_cons (pe_lc (own := [("table", 1)]) (g := gName 1) (tt := tYes) rfl scChk.nd (pi_tup (pv 0)) (blkOk_by (N := ["schema", "table"]) (sc := defScope sChk) (by decide +kernel)) (fun _ _ _ _ _ => pg_name (i := 1) scChk.nd rfl (Or.inl rfl)) (fun _ _ _ _ _ => pts_nil)
          (fun _ _ _ _ _ => pe_ix (r := rIxT K) ix_tup (pv 1) pe_int (fun _ _ => rfl))) pa_nil))))))) (pss_one (ps_raiseInv rfl T hr (takes_of rfl rfl rfl rfl) (by exact (pa_cons pe_str pa_nil)))) pss_nil)), ?_⟩
    have h0 : EvD K (tVar 0) (start ["schema", "table"] [v]) H d := ed_var rfl hd
    -- what a raise comes to
    have raised : schF d = false → ∀ (D : Ends) (σ : L2.St) (H1 : Hp), Ex H H1 → tRaiseInv Ci (fun cls d _ H => E cls d H) (tCons (tC (.str "schema")) tNil) D σ H1 := fun z D σ H1 e1 => by
      refine ⟨"schema", rfl, by decide, fun dd hn => kn z dd _ (e1.trans (Ex.new hn)) upd_same⟩
    by_cases hT : isTuple d = true
    · obtain ⟨ts, rfl⟩ := tup_of hT
      refine q_when (b := !sizeIs ts.length 4) (et_is (et_or (et_not (et_B (ev_isTup h0))) fun _ => et_not (et_test (size_ev (K := K) (n := ts.length) (m := 4) (ev_lenD h0 rfl) ev_c))) ?_) (fun hb H1 e1 => ?_) (fun hb H1 e1 => ?_)
      · rfl
      · refine raised ?_ _ _ H1 e1
        show (sizeIs ts.length 4 && _) = false
        rw [show sizeIs ts.length 4 = false by simpa using hb] <;> rfl
      · have hs : sizeIs ts.length 4 = true := by simpa using hb
        have hl : ts.length ≤ 4 := of_decide_eq_true (Bool.and_eq_true_iff.mp hs).2
        have h1 := h0.mono e1
        have pre : ∀ c ∈ ts, tabPre c = true := List.all_eq_true.mp hp
        have ec : schF (.tuple ts) = (ts.all tabF && unlikeF (firsts ts)) := by
          show (sizeIs ts.length 4 && _) = _
          rw [hs]
          rfl
        have hall : Ev (tCB (rAll K) (tCons (tLc (iTup K (tVar 0)) (gName 1) tYes (tCall (spTab K) [] E0 (tCons (tVar 1) tNil)) [1]) tNil)) (start ["schema", "table"] [v]) H1 (.bl (ts.all tabF)) := by
          refine ev_is (ev_all (bs := ts.map tabF) (el_lcT (fun d => .bl (tabF d)) h1 (by omega) (fun _ => rfl) fun x d H2 e2 hm hx => ?_) (map_blD _ _)) (by rw [all_blD])
          exact ev_call1 (f := fun d => .bl (tabF d)) (ed_var rfl hx) (pre d hm)
        have hunl : ts.all tabF = true → Ev (tCall (spUnl K) [] E0 (tCons (tLc (iTup K (tVar 0)) (gName 1) tYes (tOp (rIxT K) (tVar 1) (tC (.int 0))) [1]) tNil)) (start ["schema", "table"] [v]) H1 (.bl (unlikeF (firsts ts))) := fun ha => by
          have htab : ∀ c ∈ ts, tabF c = true := List.all_eq_true.mp ha
          refine ev_call1 (f := fun d => .bl (unlikeF d)) (ed_ofL (ds := (ts.map firstS).map .str) (el_lcT (fun d => .str (firstS d)) h1 (by omega) (fun _ => rfl) fun x d H2 e2 hm hx => ?_) fun H3 => ?_) ⟨ts.map firstS, by rw [List.length_map]; omega, .inl rfl⟩
          · obtain ⟨z, b, rfl⟩ := tabF_str (htab d hm)
            exact ev_str (ed_ixT (ed_var rfl hx) (ev_c (v := .int 0)) rfl)
          · have em : ts.map (fun d => V.str (firstS d)) = (ts.map firstS).map V.str := by rw [List.map_map]; rfl
            rw [em]
            exact dpa_of_strs _
        refine s_when (b := !(ts.all tabF) || !(unlikeF (firsts ts))) (et_or (et_not (et_B hall)) fun ha => et_not (et_B (hunl (by simpa using ha)))) (fun hb2 H2 e2 => ?_) (fun hb2 H2 e2 => ?_)
        · refine raised ?_ _ _ H2 (e1.trans e2)
          rw [ec]
          cases ha : ts.all tabF with
          | false => rfl
          | true =>
            rw [ha] at hb2
            show unlikeF (firsts ts) = false
            simpa using hb2
        · refine ky ?_ H2 (e1.trans e2)
          rw [ec]
          cases ha : ts.all tabF with
          | false =>
            rw [ha] at hb2
            cases hb2
          | true =>
            rw [ha] at hb2
            show unlikeF (firsts ts) = true
            simpa using hb2
    · have hT' : isTuple d = false := by simpa using hT
      refine q_when (b := true) (et_is (b := true) (et_or (b := true) (et_not (et_B (ev_isTup h0))) fun hz => ?_) ?_) (fun _ H1 e1 => ?_) (fun hb _ _ => absurd hb (by decide))
      · rw [hT'] at hz
        cases hz
      · rw [hT']
        rfl
      · refine raised ?_ _ _ H1 e1
        cases d with
        | tuple _ => cases hT'
        | _ => rfl
end
end K43
/-! columns_of, is_row, place_of. -/
namespace K43
open PySem L2 Evl
/-! ### schemas and columns -/
abbrev Cols := List (Str × Str)
abbrev Sch := List (Str × Cols)
def colD (c : Str × Str) : PyData := .tuple [.str c.1, .str c.2]
def colsD (cs : Cols) : PyData := .tuple (cs.map colD)
def tabD (t : Str × Cols) : PyData := .tuple [.str t.1, colsD t.2]
def schD (s : Sch) : PyData := .tuple (s.map tabD)
/-! ### columns_of -/
abbrev sCof : Stmt := topS 21
theorem scCof : FnScope ["schema", "name", "table", "columns"] ["schema", "name"] (defScope sCof) := ⟨rfl, rfl, rfl, by decide +kernel, rfl, by decide +kernel, by decide +kernel⟩
def colsOf : Sch → Str → PyData
  | [], _ => .none
  | t :: s, z => if t.1 = z then colsD t.2 else colsOf s z
def spCof (K : PySem.W.Frag) : Sp := fun vs H Q _ => ∃ v s z, vs = [v, .str z] ∧ Dp K H v (schD s) ∧ ∀ u H', Ex H H' → Dp K H' u (colsOf s z) → Q u H'
section
variable {P : Program} {w : World} {K : PySem.W.Frag} {mg : Str → Option Value} {base : Heap} {f : Addr} {fd : FuncData}
theorem pair_of {H : Hp} {x : V} {a b : PyData} (h : Dp K H x (.tuple [a, b])) : ∃ p va vb, x = .ref p ∧ SqT K H p [va, vb] ∧ Dp K H va a ∧ Dp K H vb b := by
  cases h with
  | tup hs ha =>
    cases ha with
    | cons h1 h2 =>
      cases h2 with
      | cons h2 h3 =>
        cases h3
        exact ⟨_, _, _, rfl, hs, h1, h2⟩
theorem str_dec {x y : Str} : decide (V.str x = V.str y) = decide (x = y) := decide_eq_decide.mpr ⟨fun z => V.str.inj z, fun z => by rw [z]⟩
theorem ok_cof (D : DefAt K mg "columns_of" sCof ["schema", "name"] f fd) : FnOk P w K mg base CX0 1 f fd ["schema", "name"] (spCof K) := by
  refine D.F.ok scCof (fun vs H Q E h => ?_) (fun cdv A outer s H vs Q E hr h => ?_)
  · obtain ⟨v, s, z, rfl, _⟩ := h
    rfl
  · obtain ⟨v, sch, z, rfl, hd, k⟩ := h
    refine ⟨_, pss_cons (ps_for PassesOwn.never rfl (pi_tup (pv 0)) (pg_tup rfl (pgs_cons (pg_name (i := 2) scCof.nd rfl (Or.inl rfl)) (pgs_cons (pg_name (i := 3) scCof.nd rfl (Or.inl rfl)) pgs_nil)))
      (pss_one (ps_if (pt_cmpR op_eq (pv 2) (pv 1) (nomark _)) (pss_one (ps_ret (pv 3))) pss_nil))) (pss_one (ps_ret pe_non)), ?_⟩
    cases hd with
    | @tup a xs _ hs ha =>
      have hl := dpa_len ha
      rw [List.length_map] at hl
      refine q_forT (a := a) (xs := xs) (ev_var rfl) hs (fun i σ' H' => Ex H H' ∧ (∃ o2 o3, σ' = [some (.ref a), some (.str z), o2, o3]) ∧ colsOf sch z = colsOf (sch.drop i) z) (fun H1 e1 => ⟨e1, ⟨none, none, rfl⟩, rfl⟩) (fun i σ' H' _ p => ex_t p.1 hs) ?_ ?_
      · rintro i x σ' H' hx ⟨e1, ⟨o2, o3, rfl⟩, he⟩
        obtain ⟨d, hd, hdx⟩ := dpa_got ha hx
        rw [List.getElem?_map] at hd
        have hi : i < sch.length := by
          have hlt := (List.getElem?_eq_some_iff.mp hx).1
          omega
        rw [List.getElem?_eq_getElem hi] at hd
        obtain rfl : tabD sch[i] = d := Option.some.inj hd
        obtain ⟨p, va, vb, rfl, hp, h1, h2⟩ := pair_of (dp_ex e1 hdx)
        have ea := dp_str h1
        subst ea
        refine ⟨p, _, rfl, hp, rfl, _, _, rfl, _, _, rfl, rfl, ?_⟩
        have ed : sch.drop i = sch[i] :: sch.drop (i + 1) := List.drop_eq_getElem_cons hi
        rw [ed] at he
        have he' : colsOf sch z = if sch[i].1 = z then colsD sch[i].2 else colsOf (sch.drop (i + 1)) z := he
        refine s_when (b := decide (sch[i].1 = z)) (et_test (ev_eq (x := .str sch[i].1) (y := .str z) (ev_var rfl) (ev_var rfl) rfl str_dec)) (fun hb H2 e2 => ?_) (fun hb H2 e2 => ?_)
        · refine s_ret (v := vb) (ev_var rfl) fun H3 e3 => k vb H3 ((e1.trans e2).trans e3) ?_
          rw [he', if_pos (of_decide_eq_true hb)]
          exact dp_ex (e2.trans e3) h2
        · refine ⟨e1.trans e2, ⟨_, _, rfl⟩, ?_⟩
          rw [he', if_neg (of_decide_eq_false hb)]
      · rintro σ' H' ⟨e1, ⟨o2, o3, rfl⟩, he⟩
        refine s_ret (v := .non) ev_c fun H3 e3 => k .non H3 (e1.trans e3) ?_
        rw [hl, List.drop_length] at he
        rw [he]
        exact .non
end
/-! ### is_row -/
abbrev sRow : Stmt := topS 22
theorem scRow : FnScope ["columns", "row", "k"] ["columns", "row"] (defScope sRow) := ⟨rfl, rfl, rfl, by decide +kernel, rfl, by decide +kernel, by decide +kernel⟩
def rowPre : PyData → Bool
  | .tuple rs => rs.all shortD
  | _ => true
def cellF (cs : Cols) (rs : List PyData) (k : Nat) : Bool := decide (kindV (rs.getD k .none) = .str (cs.getD k (Str.empty, Str.empty)).2)
def rowF (cs : Cols) : PyData → Bool
  | .tuple rs => decide (rs.length = cs.length) && (List.range cs.length).all (cellF cs rs)
  | _ => false
def spRow (K : PySem.W.Frag) : Sp := fun vs H Q _ => ∃ v u cs d, vs = [v, u] ∧ Dp K H v (colsD cs) ∧ Dp K H u d ∧ cs.length ≤ 1000 ∧ rowPre d = true ∧ ∀ H', Ex H H' → Q (.bl (rowF cs d)) H'
theorem scal_kind (d : PyData) (x : Str) : scal (kindV d) (.str x) = true := by
  unfold kindV
  split
  · rfl
  · split <;> rfl
section
variable {P : Program} {w : World} {K : PySem.W.Frag} {mg : Str → Option Value} {base : Heap} {f f1 f2 f3 : Addr} {fd fd1 fd2 fd3 : FuncData}
theorem ev_callRow {σ : L2.St} {H : Hp} {ta tb : TE} {cs : Cols} {d : PyData} {E : XK} (h : EvD K ta σ H (colsD cs)) (h2 : EvD K tb σ H d) (hl : cs.length ≤ 1000) (hp : rowPre d = true) : Ev (tCall (spRow K) [] E (tCons ta (tCons tb tNil))) σ H (.bl (rowF cs d)) := fun H1 ex Q q =>
  h H1 ex _ fun v H2 e2 hv => h2 H2 (ex.trans e2) _ fun u H3 e3 hu => ⟨v, u, cs, d, rfl, dp_ex e3 hv, hu, hl, hp, fun H' e' => q H' ((e2.trans e3).trans e')⟩
theorem at_nat {α : Type} {xs : List α} {j : Nat} {v : α} (h : xs[j]? = some v) : atI xs ((j : Nat) : Int) = some v := atI_nat h
theorem ok_row (D : DefAt K mg "is_row" sRow ["columns", "row"] f fd) (D1 : DefAt K mg "kind_of" sKind ["value"] f1 fd1) (D2 : DefAt K mg "is_number" sNum ["value", "most"] f2 fd2) (D3 : DefAt K mg "is_text" sTxt ["value"] f3 fd3) (B : Blt mg) (C : Cst mg) :
    FnOk P w K mg base CX0 3 f fd ["columns", "row"] (spRow K) := by
  have G1 : FnOk P w K mg base CX0 2 f1 fd1 ["value"] (spKind K) := ok_kind D1 D2 D3 B C
  refine D.F.ok scRow (fun vs H Q E h => ?_) (fun cdv A outer s H vs Q E hr h => ?_)
  · obtain ⟨v, u, cs, d, rfl, _⟩ := h
    rfl
  · obtain ⟨v, u, cs, d, rfl, hv, hu, hcl, hp, k⟩ := h
    refine ⟨_, pss_cons (ps_if (PW.pt (pw_or (pt_not (pt_val (pe_isi B.isi B.tuple PyProof.Rows.boot_tuple (pv 1)))) (pw_or1 (pt_cmpR op_ne (pe_len B.len (pv 1)) (pe_len B.len (pv 0)) (nomark _))))) (pss_one (ps_ret pe_bl)) pss_nil)
      (pss_one (ps_ret (pe_allL rfl B.all (pe_lc (own := [("k", 2)]) (g := gName 2) (tt := tYes) rfl scRow.nd (pi_range1 rfl B.range (pa_cons (pe_len B.len (pv 0)) pa_nil)) (blkOk_by (N := ["columns", "row", "k"]) (sc := defScope sRow) (by decide +kernel)) (fun _ _ _ _ _ => pg_name (i := 2) scRow.nd rfl (Or.inl rfl)) (fun _ _ _ _ _ => pts_nil)
        (fun _ _ _ _ _ => pe_cmpR op_eq (pe_call G1 hr rfl D1.g D1.F.kp D1.b .nil pass0 (pa_cons (pe_ix (r := rIxT K) ix_tup (pv 1) (pv 2) (fun _ _ => rfl)) pa_nil)) (pe_ix (r := rIxT K) ix_tup (pe_ix (r := rIxT K) ix_tup (pv 0) (pv 2) (fun _ _ => rfl)) pe_int (fun _ _ => rfl)) (nomark _)))))), ?_⟩
    have h0 : EvD K (tVar 0) (start ["columns", "row", "k"] [v, u]) H (colsD cs) := ed_var rfl hv
    have h1 : EvD K (tVar 1) (start ["columns", "row", "k"] [v, u]) H d := ed_var rfl hu
    have hlc : lenD (colsD cs) = some cs.length := by
      show some (cs.map colD).length = _
      rw [List.length_map]
    by_cases hT : isTuple d = true
    · obtain ⟨rs, rfl⟩ := tup_of hT
      refine q_when (b := !decide (rs.length = cs.length)) (et_is (et_or (et_not (et_B (ev_isTup h1))) fun _ => et_test (ev_ne (b := !decide (rs.length = cs.length)) (ev_lenD h1 (n := rs.length) rfl) (ev_lenD h0 hlc) rfl ?_)) ?_) (fun hb H1 e1 => ?_) (fun hb H1 e1 => ?_)
      · refine congrArg Bool.not (decide_eq_decide.mpr ⟨fun z => ?_, fun z => by rw [z]⟩)
        have z2 := V.int.inj z
        omega
      · rfl
      · refine s_ret (v := .bl false) ev_c fun H2 e2 => rt_bl (k H2 (e1.trans e2)) ?_
        show (decide (rs.length = cs.length) && _) = false
        rw [show decide (rs.length = cs.length) = false by simpa using hb] <;> rfl
      · have hl : rs.length = cs.length := by simpa using hb
        have pre : ∀ c ∈ rs, shortD c = true := List.all_eq_true.mp hp
        refine s_ret (v := .bl ((List.range cs.length).all (cellF cs rs))) ?_ fun H2 e2 => rt_bl (k H2 (e1.trans e2)) ?_
        · refine ev_is (ev_all (bs := (List.range cs.length).map (cellF cs rs)) (el_lcR (fun i => .bl (cellF cs rs i)) (ea_cons (ev_lenD (h0.mono e1) hlc) ea_nil) (by omega) (fun _ => rfl) fun i H2 e2 hi => ?_) (map_bls _ _)) (by rw [all_bls])
          have hi2 : i < rs.length := by omega
          have er : rs[i]? = some rs[i] := List.getElem?_eq_getElem hi2
          have ec : cs[i]? = some cs[i] := List.getElem?_eq_getElem hi
          have eD : (cs.map colD)[i]? = some (colD cs[i]) := by rw [List.getElem?_map, ec] <;> rfl
          have vk : Ev (tVar 2) ((wipe (start ["columns", "row", "k"] [v, u]) [2]).set 2 (some (.int (i : Nat)))) H2 (.int (i : Nat)) := ev_var rfl
          have v1 : EvD K (tVar 1) ((wipe (start ["columns", "row", "k"] [v, u]) [2]).set 2 (some (.int (i : Nat)))) H2 (.tuple rs) := ed_var rfl (dp_ex (e1.trans e2) hu)
          have v0 : EvD K (tVar 0) ((wipe (start ["columns", "row", "k"] [v, u]) [2]).set 2 (some (.int (i : Nat)))) H2 (colsD cs) := ed_var rfl (dp_ex (e1.trans e2) hv)
          have hk : Ev _ _ H2 (kindV rs[i]) := ev_call1 (K := K) (E := E0) (pre := fun d => shortD d = true) (f := kindV) (ed_ixT v1 vk (at_nat er)) (pre _ (List.getElem_mem hi2))
          have hc : Ev _ _ H2 (.str cs[i].2) := ev_str (ed_ixT (ed_ixT v0 vk (at_nat eD)) (ev_c (v := .int 1)) rfl)
          refine ev_eq hk hc (scal_kind _ _) ?_
          unfold cellF
          rw [List.getD_eq_getElem?_getD, List.getD_eq_getElem?_getD, er, ec]
          rfl
        · show (decide (rs.length = cs.length) && _) = _
          rw [decide_eq_true hl]
          rfl
    · have hT' : isTuple d = false := by simpa using hT
      refine q_when (b := true) (et_is (b := true) (et_or (b := true) (et_not (et_B (ev_isTup h1))) fun hz => ?_) ?_) (fun _ H1 e1 => ?_) (fun hb _ _ => absurd hb (by decide))
      · rw [hT'] at hz
        cases hz
      · rw [hT']
        rfl
      · refine s_ret (v := .bl false) ev_c fun H2 e2 => rt_bl (k H2 (e1.trans e2)) ?_
        cases d with
        | tuple _ => cases hT'
        | _ => rfl
end
/-! ### place_of -/
abbrev sPla : Stmt := topS 23
theorem scPla : FnScope ["columns", "name", "place", "column"] ["columns", "name"] (defScope sPla) := ⟨rfl, rfl, rfl, by decide +kernel, rfl, by decide +kernel, by decide +kernel⟩
def placeV : Cols → Str → Nat → V
  | [], _, _ => .non
  | c :: cs, z, i => if c.1 = z then .int (i : Nat) else placeV cs z (i + 1)
def spPla (K : PySem.W.Frag) : Sp := fun vs H Q _ => ∃ v cs z, vs = [v, .str z] ∧ Dp K H v (colsD cs) ∧ ∀ H', Ex H H' → Q (placeV cs z 0) H'
section
variable {P : Program} {w : World} {K : PySem.W.Frag} {mg : Str → Option Value} {base : Heap} {f : Addr} {fd : FuncData}
theorem ok_pla (D : DefAt K mg "place_of" sPla ["columns", "name"] f fd) (B : Blt mg) : FnOk P w K mg base CX0 1 f fd ["columns", "name"] (spPla K) := by
  refine D.F.ok scPla (fun vs H Q E h => ?_) (fun cdv A outer s H vs Q E hr h => ?_)
  · obtain ⟨v, cs, z, rfl, _⟩ := h
    rfl
  · obtain ⟨v, cs, z, rfl, hd, k⟩ := h
    refine ⟨_, pss_cons (ps_for PassesOwn.never rfl (pi_enumT rfl B.enumerate (pa_cons (pv 0) pa_nil)) (pg_tup rfl (pgs_cons (pg_name (i := 2) scPla.nd rfl (Or.inl rfl)) (pgs_cons (pg_name (i := 3) scPla.nd rfl (Or.inl rfl)) pgs_nil)))
      (pss_one (ps_if (pt_cmpR op_eq (pe_ix ix_tup (pv 3) pe_int (fun _ _ => rfl)) (pv 1) (nomark _)) (pss_one (ps_ret (pv 2))) pss_nil))) (pss_one (ps_ret pe_non)), ?_⟩
    cases hd with
    | @tup a xs _ hs ha =>
      have hl := dpa_len ha
      rw [List.length_map] at hl
      refine ⟨.ref a, rfl, a, xs, rfl, hs, for_it walk_enumT (fun i σ' H' => Ex H H' ∧ (∃ o2 o3, σ' = [some (.ref a), some (.str z), o2, o3]) ∧ placeV cs z 0 = placeV (cs.drop i) z i) ⟨Ex.refl H, ⟨none, none, rfl⟩, rfl⟩ (fun i σ' H' _ p => ex_t p.1 hs) ?_ ?_⟩
      · rintro i x σ' H' H2 hi ⟨e1, ⟨o2, o3, rfl⟩, he⟩ ⟨T, xi, xc, rfl, hT, rfl, ei, ec⟩
        cases ei
        obtain ⟨d, hd, hdx⟩ := dpa_got ha ec
        rw [List.getElem?_map] at hd
        have hi2 : i < cs.length := by omega
        rw [List.getElem?_eq_getElem hi2] at hd
        obtain rfl : colD cs[i] = d := Option.some.inj hd
        have e2 := e1.trans (Ex.new (o := .tup [.int (i : Nat), xc]) hT)
        have hdx2 := dp_ex e2 hdx
        refine ⟨T, [.int (i : Nat), xc], rfl, st_of upd_same, rfl, _, _, rfl, _, _, rfl, rfl, ?_⟩
        have ed : cs.drop i = cs[i] :: cs.drop (i + 1) := List.drop_eq_getElem_cons hi2
        rw [ed] at he
        have he' : placeV cs z 0 = if cs[i].1 = z then .int (i : Nat) else placeV (cs.drop (i + 1)) z (i + 1) := he
        have hc : Ev (tOp (rIxT K) (tVar 3) (tC (.int 0))) [some (.ref a), some (.str z), some (.int (i : Nat)), some xc] (upd H' T (.tup [.int (i : Nat), xc])) (.str cs[i].1) := ev_str (ed_ixT (ed_var rfl hdx2) (ev_c (v := .int 0)) rfl)
        refine s_when (b := decide (cs[i].1 = z)) (et_test (ev_eq (x := .str cs[i].1) (y := .str z) hc (ev_var rfl) rfl str_dec)) (fun hb H3 e3 => ?_) (fun hb H3 e3 => ?_)
        · refine s_ret (v := .int (i : Nat)) (ev_var rfl) fun H4 e4 => ?_
          have q := k H4 ((e2.trans e3).trans e4)
          rw [he', if_pos (of_decide_eq_true hb)] at q
          exact q
        · refine ⟨e2.trans e3, ⟨_, _, rfl⟩, ?_⟩
          rw [he', if_neg (of_decide_eq_false hb)]
      · rintro σ' H' ⟨e1, ⟨o2, o3, rfl⟩, he⟩
        show tRet (tC .non) { nx := fun _ H' => Q V.non H', rt := Q } [some (.ref a), some (.str z), o2, o3] H'
        refine s_ret (v := .non) ev_c fun H3 e3 => ?_
        have q := k H3 (e1.trans e3)
        rw [hl, List.drop_length] at he
        rw [he] at q
        exact q
end
end K43
/-! The law's own helpers: _law_schema, _law_bad, _law_value. -/
namespace K43
open PySem L2 Evl
/-! ### _law_schema -/
abbrev sSch : Stmt := topS 27
theorem scSch : FnScope ["_law_n", "_law_first"] ["_law_n"] (defScope sSch) := ⟨rfl, rfl, rfl, by decide +kernel, rfl, by decide +kernel, by decide +kernel⟩
def sch1 : Sch := [("a", [("n", "number"), ("t", "text")]), ("b", [("n", "number"), ("m", "number")]), ("c", [("t", "text")])]
def sch2 : Sch := [("a", [("t", "text"), ("n", "number"), ("m", "number")]), ("b", [("n", "number"), ("m", "number")])]
def schOf (n : Int) : Sch := if n % 3 = 2 then sch2 else sch1
def spSch (K : PySem.W.Frag) : Sp := fun vs H Q _ => ∃ n : Int, vs = [.int n] ∧ ∀ u H', Ex H H' → Dp K H' u (schD (schOf n)) → Q u H'
/-- int(n) of a whole number -/
def rInt1 : List V → Hp → VK → Prop := fun xs H Q => (∃ i, xs = [.int i] ∧ Q (.int i) H) ∨ ∃ k, xs = [.bl k] ∧ Q (.int (if k then 1 else 0)) H
theorem cr_int1 {X : Cx} : CallR X (.type "int") rInt1 := call_int1
section
variable {X : Cx} {a : Expr} {ta : TE}
theorem pe_int1 {p pos : Pos} (hm : X.mg "int" = none) (ha : PE X a ta) (hg : Gl X "int" := by rfl) (hs1 : starEach [a] X.env = (false, eval a X.env) :: starEach [] X.env := by rfl) :
    PE X (.Call (.Name "int" p) [a] [] pos) (tCB rInt1 (tCons ta tNil)) := pe_callTy cr_int1 hg hm PyProof.Rows.boot_int (pa_cons ha pa_nil hs1) (by decide) (by decide) hs1 rfl
end
section
variable {K : PySem.W.Frag} {σ : L2.St} {H : Hp} {ta tb : TE}
theorem ev_int1 {i : Int} (h : Ev ta σ H (.int i)) : Ev (tCB rInt1 (tCons ta tNil)) σ H (.int i) := fun H1 e Q q => h H1 e _ fun H2 e2 => .inl ⟨i, rfl, q H2 e2⟩
theorem ev_int1b {k : Bool} (h : Ev ta σ H (.bl k)) : Ev (tCB rInt1 (tCons ta tNil)) σ H (.int (if k then 1 else 0)) := fun H1 e Q q => h H1 e _ fun H2 e2 => .inr ⟨k, rfl, q H2 e2⟩
theorem ev_mod {i j : Int} (ha : Ev ta σ H (.int i)) (hb : Ev tb σ H (.int j)) (h0 : 0 < j) : Ev (tOp (rI (fun _ j => 0 < j) fun i j => .int (i % j)) ta tb) σ H (.int (i % j)) := ev_op ha hb (rv_I h0)
theorem ev_eqI {i j : Int} (ha : Ev ta σ H (.int i)) (hb : Ev tb σ H (.int j)) : Ev (tOp rEq ta tb) σ H (.bl (decide (i = j))) := ev_eq ha hb rfl (decide_eq_decide.mpr ⟨fun z => V.int.inj z, fun z => by rw [z]⟩)
end
section
variable {P : Program} {w : World} {K : PySem.W.Frag} {mg : Str → Option Value} {base : Heap} {f : Addr} {fd : FuncData}
theorem at_zero {x : PyData} {xs : List PyData} : atI (x :: xs) (0 : Int) = some x := at_nat (xs := x :: xs) (j := 0) rfl
theorem q_asgD {te : TE} {σ : L2.St} {H : Hp} {d : PyData} {D : Ends} {tz : TS} {i : Nat} (h : EvD K te σ H d) (k : ∀ v H1, Ex H H1 → Dp K H1 v d → tz D (σ.set i (some v)) H1) : tSeq (tAsg te (gName i)) tz D σ H :=
  h H (Ex.refl H) _ fun v H1 e hv => k v H1 e hv
theorem s_retD {te : TE} {σ : L2.St} {H : Hp} {d : PyData} {D : Ends} (h : EvD K te σ H d) (k : ∀ v H1, Ex H H1 → Dp K H1 v d → D.rt v H1) : tRet te D σ H := h H (Ex.refl H) _ fun v H1 e hv => k v H1 e hv
theorem ok_sch (D : DefAt K mg "_law_schema" sSch ["_law_n"] f fd) (B : Blt mg) : FnOk P w K mg base CX0 1 f fd ["_law_n"] (spSch K) := by
  refine D.F.ok scSch (fun vs H Q E h => ?_) (fun cdv A outer s H vs Q E hr h => ?_)
  · obtain ⟨n, rfl, _⟩ := h
    rfl
  · obtain ⟨n, rfl, k⟩ := h
    refine ⟨_, pss_cons (ps_if (pt_cmpR op_eq (pe_op op_mod (pe_int1 B.int (pv 0)) pe_int) pe_int (nomark _)) (pss_cons (ps_set (i := 1) scSch.nd rfl (Or.inl rfl) (pe_tup (pa_cons pe_str (pa_cons (pe_tup (pa_cons (pe_tup (pa_cons pe_str (pa_cons pe_str pa_nil))) (pa_cons (pe_tup (pa_cons pe_str (pa_cons pe_str pa_nil))) (pa_cons (pe_tup (pa_cons pe_str (pa_cons pe_str pa_nil))) pa_nil)))) pa_nil)))) (pss_one (ps_ret (pe_tup (pa_cons (pv 1) (pa_cons (pe_tup (pa_cons pe_str (pa_cons (pe_tup (pa_cons (pe_tup (pa_cons pe_str (pa_cons pe_str pa_nil))) (pa_cons (pe_tup (pa_cons pe_str (pa_cons pe_str pa_nil))) pa_nil))) pa_nil))) pa_nil)))))) pss_nil)
      (pss_cons (ps_set (i := 1) scSch.nd rfl (Or.inl rfl) (pe_tup (pa_cons pe_str (pa_cons (pe_tup (pa_cons (pe_tup (pa_cons pe_str (pa_cons pe_str pa_nil))) (pa_cons (pe_tup (pa_cons pe_str (pa_cons pe_str pa_nil))) pa_nil))) pa_nil)))) (pss_one (ps_ret (pe_tup (pa_cons (pv 1) (pa_cons (pe_tup (pa_cons pe_str (pa_cons (pe_tup (pa_cons (pe_tup (pa_cons pe_str (pa_cons pe_str pa_nil))) (pa_cons (pe_tup (pa_cons pe_str (pa_cons pe_str pa_nil))) pa_nil))) pa_nil))) (pa_cons (pe_tup (pa_cons pe_str (pa_cons (pe_tup (pa_cons (pe_tup (pa_cons pe_str (pa_cons pe_str pa_nil))) pa_nil)) pa_nil))) pa_nil))))))), ?_⟩
    refine q_when (b := decide (n % 3 = 2)) (et_test (ev_eqI (ev_mod (ev_int1 (ev_var rfl)) ev_c (by decide)) ev_c)) (fun hb H1 e1 => ?_) (fun hb H1 e1 => ?_)
    · refine q_asgD (K := K) (ed_tup (eds_cons (ed_str ev_c) (eds_cons (ed_tup (eds_cons (ed_tup (eds_cons (ed_str ev_c) (eds_cons (ed_str ev_c) eds_nil)) (Nat.le_of_ble_eq_true rfl)) (eds_cons (ed_tup (eds_cons (ed_str ev_c) (eds_cons (ed_str ev_c) eds_nil)) (Nat.le_of_ble_eq_true rfl)) (eds_cons (ed_tup (eds_cons (ed_str ev_c) (eds_cons (ed_str ev_c) eds_nil)) (Nat.le_of_ble_eq_true rfl)) eds_nil))) (Nat.le_of_ble_eq_true rfl)) eds_nil)) (Nat.le_of_ble_eq_true rfl)) fun v H2 e2 hv => ?_
      have hf : EvD K (tVar 1) [some (.int n), some v] H2 _ := ed_var rfl hv
      refine s_retD (K := K) (d := schD sch2) (ed_tup (eds_cons hf (eds_cons (ed_tup (eds_cons (ed_str ev_c) (eds_cons (ed_tup (eds_cons (ed_tup (eds_cons (ed_str ev_c) (eds_cons (ed_str ev_c) eds_nil)) (Nat.le_of_ble_eq_true rfl)) (eds_cons (ed_tup (eds_cons (ed_str ev_c) (eds_cons (ed_str ev_c) eds_nil)) (Nat.le_of_ble_eq_true rfl)) eds_nil)) (Nat.le_of_ble_eq_true rfl)) eds_nil)) (Nat.le_of_ble_eq_true rfl)) eds_nil)) (Nat.le_of_ble_eq_true rfl)) fun u H3 e3 hu => k u H3 ((e1.trans e2).trans e3) ?_
      have es : schOf n = sch2 := if_pos (of_decide_eq_true hb)
      rw [es]
      exact hu
    · refine q_asgD (K := K) (ed_tup (eds_cons (ed_str ev_c) (eds_cons (ed_tup (eds_cons (ed_tup (eds_cons (ed_str ev_c) (eds_cons (ed_str ev_c) eds_nil)) (Nat.le_of_ble_eq_true rfl)) (eds_cons (ed_tup (eds_cons (ed_str ev_c) (eds_cons (ed_str ev_c) eds_nil)) (Nat.le_of_ble_eq_true rfl)) eds_nil)) (Nat.le_of_ble_eq_true rfl)) eds_nil)) (Nat.le_of_ble_eq_true rfl)) fun v H2 e2 hv => ?_
      have hf : EvD K (tVar 1) [some (.int n), some v] H2 _ := ed_var rfl hv
      refine s_retD (K := K) (d := schD sch1) (ed_tup (eds_cons hf (eds_cons (ed_tup (eds_cons (ed_str ev_c) (eds_cons (ed_tup (eds_cons (ed_tup (eds_cons (ed_str ev_c) (eds_cons (ed_str ev_c) eds_nil)) (Nat.le_of_ble_eq_true rfl)) (eds_cons (ed_tup (eds_cons (ed_str ev_c) (eds_cons (ed_str ev_c) eds_nil)) (Nat.le_of_ble_eq_true rfl)) eds_nil)) (Nat.le_of_ble_eq_true rfl)) eds_nil)) (Nat.le_of_ble_eq_true rfl)) (eds_cons (ed_tup (eds_cons (ed_str ev_c) (eds_cons (ed_tup (eds_cons (ed_tup (eds_cons (ed_str ev_c) (eds_cons (ed_str ev_c) eds_nil)) (Nat.le_of_ble_eq_true rfl)) eds_nil) (Nat.le_of_ble_eq_true rfl)) eds_nil)) (Nat.le_of_ble_eq_true rfl)) eds_nil))) (Nat.le_of_ble_eq_true rfl)) fun u H3 e3 hu => k u H3 ((e1.trans e2).trans e3) ?_
      have es : schOf n = sch1 := if_neg (of_decide_eq_false hb)
      rw [es]
      exact hu
end
/-! ### _law_bad -/
abbrev sBad : Stmt := topS 33
theorem scBad : FnScope ["_law_schema_here", "_law_n", "_law_table_here", "_law_column", "_law_bad_here"] ["_law_schema_here", "_law_n"] (defScope sBad) := ⟨rfl, rfl, rfl, by decide +kernel, rfl, by decide +kernel, by decide +kernel⟩
/-- the 24 changes of a schema whose first table is a with the columns c :: cs, the others r -/
def badsOf (a : Str) (c : Str × Str) (cs : Cols) (r : Sch) : List PyData := [
  .tuple [],
  .list [tabD (a, c :: cs)],
  .tuple [tabD (a, c :: cs), tabD (a, c :: cs)],
  .tuple ((((a, c :: cs) :: r).map tabD) ++ [tabD (a, c :: cs)]),
  .tuple [.tuple [.str a]],
  .tuple [.tuple [.str a, .tuple []]],
  .tuple [.tuple [.str "A", colsD (c :: cs)]],
  .tuple [.tuple [.str "", colsD (c :: cs)]],
  .tuple [.tuple [.str "ninelongs", colsD (c :: cs)]],
  .tuple [.tuple [.str a, .tuple [colD c, colD c]]],
  .tuple [.tuple [.str a, .tuple [.tuple [.str "x", .str "day"]]]],
  .tuple [.tuple [.str a, .list [colD c]]],
  .tuple [.tuple [.str a, .tuple [.tuple [.str "x1", .str "text"]]]],
  .tuple [.tuple [.str a, .tuple [.tuple [.str "x"]]]],
  .tuple [.tuple [.str a, .tuple [.str "x", .str "text"]]],
  .tuple [.tuple [.int 5, colsD (c :: cs)]],
  .none,
  .tuple [.none],
  .tuple [.tuple [.str a, .tuple [.tuple [.str "a", .str "text"], .tuple [.str "b", .str "text"], .tuple [.str "c", .str "text"], .tuple [.str "d", .str "text"], .tuple [.str "e", .str "text"], .tuple [.str "f", .str "text"]]]],
  .tuple [.tuple [.str a, colsD (c :: cs), .int 1]],
  .tuple [.tuple [.str "a", colsD (c :: cs)], .tuple [.str "b", colsD (c :: cs)], .tuple [.str "c", colsD (c :: cs)], .tuple [.str "d", colsD (c :: cs)], .tuple [.str "e", colsD (c :: cs)]],
  .str "a",
  .tuple [.tuple [.str a, .tuple [.tuple [.str "x", .bool true]]]],
  .tuple [.list [.str a, colsD (c :: cs)]]]
def badD (s : Sch) (n : Int) : PyData := match s with
  | (a, c :: cs) :: r => (badsOf a c cs r).getD (n % 24).toNat .none
  | _ => .none
def Headed (s : Sch) : Prop := ∃ a c cs r, s = (a, c :: cs) :: r ∧ r.length ≤ 100
def spBad (K : PySem.W.Frag) : Sp := fun vs H Q _ => ∃ v s n, vs = [v, .int n] ∧ Dp K H v (schD s) ∧ Headed s ∧ ∀ u H', Ex H H' → Dp K H' u (badD s n) → Q u H'
section
variable {P : Program} {w : World} {K : PySem.W.Frag} {mg : Str → Option Value} {base : Heap} {f : Addr} {fd : FuncData}
theorem ok_bad (D : DefAt K mg "_law_bad" sBad ["_law_schema_here", "_law_n"] f fd) (B : Blt mg) : FnOk P w K mg base CX0 1 f fd ["_law_schema_here", "_law_n"] (spBad K) := by
  refine D.F.ok scBad (fun vs H Q E h => ?_) (fun cdv A outer s H vs Q E hr h => ?_)
  · obtain ⟨v, s, n, rfl, _⟩ := h
    rfl
  · obtain ⟨v, s, n, rfl, hd, ⟨a, c, cs, r, rfl, hrl⟩, k⟩ := h
    refine ⟨_, pss_cons (ps_set (i := 2) scBad.nd rfl (Or.inl rfl) (pe_ix ix_tup (pv 0) pe_int (fun _ _ => rfl)))
      (pss_cons (ps_set (i := 3) scBad.nd rfl (Or.inl rfl) (pe_ix ix_tup (pe_ix ix_tup (pv 2) pe_int (fun _ _ => rfl)) pe_int (fun _ _ => rfl)))
      (pss_cons (ps_set (i := 4) scBad.nd rfl (Or.inl rfl) (pe_lst (pa_cons (pe_tup pa_nil) (pa_cons (pe_lst (pa_cons (pv 2) pa_nil)) (pa_cons (pe_tup (pa_cons (pv 2) (pa_cons (pv 2) pa_nil))) (pa_cons (pe_op op_catA (pv 0) (pe_tup (pa_cons (pv 2) pa_nil))) (pa_cons (pe_tup (pa_cons (pe_tup (pa_cons (pe_ix ix_tup (pv 2) pe_int (fun _ _ => rfl)) pa_nil)) pa_nil)) (pa_cons (pe_tup (pa_cons (pe_tup (pa_cons (pe_ix ix_tup (pv 2) pe_int (fun _ _ => rfl)) (pa_cons (pe_tup pa_nil) pa_nil))) pa_nil)) (pa_cons (pe_tup (pa_cons (pe_tup (pa_cons pe_str (pa_cons (pe_ix ix_tup (pv 2) pe_int (fun _ _ => rfl)) pa_nil))) pa_nil)) (pa_cons (pe_tup (pa_cons (pe_tup (pa_cons pe_str (pa_cons (pe_ix ix_tup (pv 2) pe_int (fun _ _ => rfl)) pa_nil))) pa_nil)) (pa_cons (pe_tup (pa_cons (pe_tup (pa_cons pe_str (pa_cons (pe_ix ix_tup (pv 2) pe_int (fun _ _ => rfl)) pa_nil))) pa_nil)) (pa_cons (pe_tup (pa_cons (pe_tup (pa_cons (pe_ix ix_tup (pv 2) pe_int (fun _ _ => rfl)) (pa_cons (pe_tup (pa_cons (pv 3) (pa_cons (pv 3) pa_nil))) pa_nil))) pa_nil)) (pa_cons (pe_tup (pa_cons (pe_tup (pa_cons (pe_ix ix_tup (pv 2) pe_int (fun _ _ => rfl)) (pa_cons (pe_tup (pa_cons (pe_tup (pa_cons pe_str (pa_cons pe_str pa_nil))) pa_nil)) pa_nil))) pa_nil)) (pa_cons (pe_tup (pa_cons (pe_tup (pa_cons (pe_ix ix_tup (pv 2) pe_int (fun _ _ => rfl)) (pa_cons (pe_lst (pa_cons (pv 3) pa_nil)) pa_nil))) pa_nil)) (pa_cons (pe_tup (pa_cons (pe_tup (pa_cons (pe_ix ix_tup (pv 2) pe_int (fun _ _ => rfl)) (pa_cons (pe_tup (pa_cons (pe_tup (pa_cons pe_str (pa_cons pe_str pa_nil))) pa_nil)) pa_nil))) pa_nil)) (pa_cons (pe_tup (pa_cons (pe_tup (pa_cons (pe_ix ix_tup (pv 2) pe_int (fun _ _ => rfl)) (pa_cons (pe_tup (pa_cons (pe_tup (pa_cons pe_str pa_nil)) pa_nil)) pa_nil))) pa_nil)) (pa_cons (pe_tup (pa_cons (pe_tup (pa_cons (pe_ix ix_tup (pv 2) pe_int (fun _ _ => rfl)) (pa_cons (pe_tup (pa_cons pe_str (pa_cons pe_str pa_nil))) pa_nil))) pa_nil)) (pa_cons (pe_tup (pa_cons (pe_tup (pa_cons pe_int (pa_cons (pe_ix ix_tup (pv 2) pe_int (fun _ _ => rfl)) pa_nil))) pa_nil)) (pa_cons pe_non (pa_cons (pe_tup (pa_cons pe_non pa_nil)) (pa_cons (pe_tup (pa_cons (pe_tup (pa_cons (pe_ix ix_tup (pv 2) pe_int (fun _ _ => rfl)) (pa_cons (pe_tup (pa_cons (pe_tup (pa_cons pe_str (pa_cons pe_str pa_nil))) (pa_cons (pe_tup (pa_cons pe_str (pa_cons pe_str pa_nil))) (pa_cons (pe_tup (pa_cons pe_str (pa_cons pe_str pa_nil))) (pa_cons (pe_tup (pa_cons pe_str (pa_cons pe_str pa_nil))) (pa_cons (pe_tup (pa_cons pe_str (pa_cons pe_str pa_nil))) (pa_cons (pe_tup (pa_cons pe_str (pa_cons pe_str pa_nil))) pa_nil))))))) pa_nil))) pa_nil)) (pa_cons (pe_tup (pa_cons (pe_tup (pa_cons (pe_ix ix_tup (pv 2) pe_int (fun _ _ => rfl)) (pa_cons (pe_ix ix_tup (pv 2) pe_int (fun _ _ => rfl)) (pa_cons pe_int pa_nil)))) pa_nil)) (pa_cons (pe_tup (pa_cons (pe_tup (pa_cons pe_str (pa_cons (pe_ix ix_tup (pv 2) pe_int (fun _ _ => rfl)) pa_nil))) (pa_cons (pe_tup (pa_cons pe_str (pa_cons (pe_ix ix_tup (pv 2) pe_int (fun _ _ => rfl)) pa_nil))) (pa_cons (pe_tup (pa_cons pe_str (pa_cons (pe_ix ix_tup (pv 2) pe_int (fun _ _ => rfl)) pa_nil))) (pa_cons (pe_tup (pa_cons pe_str (pa_cons (pe_ix ix_tup (pv 2) pe_int (fun _ _ => rfl)) pa_nil))) (pa_cons (pe_tup (pa_cons pe_str (pa_cons (pe_ix ix_tup (pv 2) pe_int (fun _ _ => rfl)) pa_nil))) pa_nil)))))) (pa_cons pe_str (pa_cons (pe_tup (pa_cons (pe_tup (pa_cons (pe_ix ix_tup (pv 2) pe_int (fun _ _ => rfl)) (pa_cons (pe_tup (pa_cons (pe_tup (pa_cons pe_str (pa_cons pe_bl pa_nil))) pa_nil)) pa_nil))) pa_nil)) (pa_cons (pe_tup (pa_cons (pe_lst (pa_cons (pe_ix ix_tup (pv 2) pe_int (fun _ _ => rfl)) (pa_cons (pe_ix ix_tup (pv 2) pe_int (fun _ _ => rfl)) pa_nil))) pa_nil)) pa_nil))))))))))))))))))))))))))
      (pss_one (ps_ret (pe_ix ix_list (pv 4) (pe_op op_mod (pe_int1 B.int (pv 1)) pe_int) (fun _ _ => rfl)))))), ?_⟩
    refine q_asgD (K := K) (d := tabD (a, c :: cs)) (ed_ixT (ed_var rfl hd) (ev_c (v := .int 0)) at_zero) fun v2 H1 e1 hv2 => ?_
    refine q_asgD (K := K) (d := colD c) (ed_ixT (ed_ixT (ed_var rfl hv2) (ev_c (v := .int 1)) rfl) (ev_c (v := .int 0)) at_zero) fun v3 H2 e2 hv3 => ?_
    have h0 : EvD K (tVar 0) [some v, some (.int n), some v2, some v3, none] H2 (schD ((a, c :: cs) :: r)) := ed_var rfl (dp_ex (e1.trans e2) hd)
    have h2 : EvD K (tVar 2) [some v, some (.int n), some v2, some v3, none] H2 (tabD (a, c :: cs)) := ed_var rfl (dp_ex e2 hv2)
    have h3 : EvD K (tVar 3) [some v, some (.int n), some v2, some v3, none] H2 (colD c) := ed_var rfl hv3
    have hcat : (((a, c :: cs) :: r).map tabD).length + [tabD (a, c :: cs)].length ≤ 100000 := by
      rw [List.length_map, List.length_cons]
      show r.length + 1 + 1 ≤ 100000
      omega
    refine q_asgD (K := K) (d := .list (badsOf a c cs r)) (ed_lst (eds_cons (ed_tup eds_nil (Nat.le_of_ble_eq_true rfl)) (eds_cons (ed_lst (eds_cons h2 eds_nil) (Nat.le_of_ble_eq_true rfl)) (eds_cons (ed_tup (eds_cons h2 (eds_cons h2 eds_nil)) (Nat.le_of_ble_eq_true rfl)) (eds_cons (ed_catT h0 (ed_tup (eds_cons h2 eds_nil) (Nat.le_of_ble_eq_true rfl)) hcat) (eds_cons (ed_tup (eds_cons (ed_tup (eds_cons (ed_ixT h2 (ev_c (v := .int 0)) rfl) eds_nil) (Nat.le_of_ble_eq_true rfl)) eds_nil) (Nat.le_of_ble_eq_true rfl)) (eds_cons (ed_tup (eds_cons (ed_tup (eds_cons (ed_ixT h2 (ev_c (v := .int 0)) rfl) (eds_cons (ed_tup eds_nil (Nat.le_of_ble_eq_true rfl)) eds_nil)) (Nat.le_of_ble_eq_true rfl)) eds_nil) (Nat.le_of_ble_eq_true rfl)) (eds_cons (ed_tup (eds_cons (ed_tup (eds_cons (ed_str ev_c) (eds_cons (ed_ixT h2 (ev_c (v := .int 1)) rfl) eds_nil)) (Nat.le_of_ble_eq_true rfl)) eds_nil) (Nat.le_of_ble_eq_true rfl)) (eds_cons (ed_tup (eds_cons (ed_tup (eds_cons (ed_str ev_c) (eds_cons (ed_ixT h2 (ev_c (v := .int 1)) rfl) eds_nil)) (Nat.le_of_ble_eq_true rfl)) eds_nil) (Nat.le_of_ble_eq_true rfl)) (eds_cons (ed_tup (eds_cons (ed_tup (eds_cons (ed_str ev_c) (eds_cons (ed_ixT h2 (ev_c (v := .int 1)) rfl) eds_nil)) (Nat.le_of_ble_eq_true rfl)) eds_nil) (Nat.le_of_ble_eq_true rfl)) (eds_cons (ed_tup (eds_cons (ed_tup (eds_cons (ed_ixT h2 (ev_c (v := .int 0)) rfl) (eds_cons (ed_tup (eds_cons h3 (eds_cons h3 eds_nil)) (Nat.le_of_ble_eq_true rfl)) eds_nil)) (Nat.le_of_ble_eq_true rfl)) eds_nil) (Nat.le_of_ble_eq_true rfl)) (eds_cons (ed_tup (eds_cons (ed_tup (eds_cons (ed_ixT h2 (ev_c (v := .int 0)) rfl) (eds_cons (ed_tup (eds_cons (ed_tup (eds_cons (ed_str ev_c) (eds_cons (ed_str ev_c) eds_nil)) (Nat.le_of_ble_eq_true rfl)) eds_nil) (Nat.le_of_ble_eq_true rfl)) eds_nil)) (Nat.le_of_ble_eq_true rfl)) eds_nil) (Nat.le_of_ble_eq_true rfl)) (eds_cons (ed_tup (eds_cons (ed_tup (eds_cons (ed_ixT h2 (ev_c (v := .int 0)) rfl) (eds_cons (ed_lst (eds_cons h3 eds_nil) (Nat.le_of_ble_eq_true rfl)) eds_nil)) (Nat.le_of_ble_eq_true rfl)) eds_nil) (Nat.le_of_ble_eq_true rfl)) (eds_cons (ed_tup (eds_cons (ed_tup (eds_cons (ed_ixT h2 (ev_c (v := .int 0)) rfl) (eds_cons (ed_tup (eds_cons (ed_tup (eds_cons (ed_str ev_c) (eds_cons (ed_str ev_c) eds_nil)) (Nat.le_of_ble_eq_true rfl)) eds_nil) (Nat.le_of_ble_eq_true rfl)) eds_nil)) (Nat.le_of_ble_eq_true rfl)) eds_nil) (Nat.le_of_ble_eq_true rfl)) (eds_cons (ed_tup (eds_cons (ed_tup (eds_cons (ed_ixT h2 (ev_c (v := .int 0)) rfl) (eds_cons (ed_tup (eds_cons (ed_tup (eds_cons (ed_str ev_c) eds_nil) (Nat.le_of_ble_eq_true rfl)) eds_nil) (Nat.le_of_ble_eq_true rfl)) eds_nil)) (Nat.le_of_ble_eq_true rfl)) eds_nil) (Nat.le_of_ble_eq_true rfl)) (eds_cons (ed_tup (eds_cons (ed_tup (eds_cons (ed_ixT h2 (ev_c (v := .int 0)) rfl) (eds_cons (ed_tup (eds_cons (ed_str ev_c) (eds_cons (ed_str ev_c) eds_nil)) (Nat.le_of_ble_eq_true rfl)) eds_nil)) (Nat.le_of_ble_eq_true rfl)) eds_nil) (Nat.le_of_ble_eq_true rfl)) (eds_cons (ed_tup (eds_cons (ed_tup (eds_cons (ed_int ev_c) (eds_cons (ed_ixT h2 (ev_c (v := .int 1)) rfl) eds_nil)) (Nat.le_of_ble_eq_true rfl)) eds_nil) (Nat.le_of_ble_eq_true rfl)) (eds_cons (ed_non ev_c) (eds_cons (ed_tup (eds_cons (ed_non ev_c) eds_nil) (Nat.le_of_ble_eq_true rfl)) (eds_cons (ed_tup (eds_cons (ed_tup (eds_cons (ed_ixT h2 (ev_c (v := .int 0)) rfl) (eds_cons (ed_tup (eds_cons (ed_tup (eds_cons (ed_str ev_c) (eds_cons (ed_str ev_c) eds_nil)) (Nat.le_of_ble_eq_true rfl)) (eds_cons (ed_tup (eds_cons (ed_str ev_c) (eds_cons (ed_str ev_c) eds_nil)) (Nat.le_of_ble_eq_true rfl)) (eds_cons (ed_tup (eds_cons (ed_str ev_c) (eds_cons (ed_str ev_c) eds_nil)) (Nat.le_of_ble_eq_true rfl)) (eds_cons (ed_tup (eds_cons (ed_str ev_c) (eds_cons (ed_str ev_c) eds_nil)) (Nat.le_of_ble_eq_true rfl)) (eds_cons (ed_tup (eds_cons (ed_str ev_c) (eds_cons (ed_str ev_c) eds_nil)) (Nat.le_of_ble_eq_true rfl)) (eds_cons (ed_tup (eds_cons (ed_str ev_c) (eds_cons (ed_str ev_c) eds_nil)) (Nat.le_of_ble_eq_true rfl)) eds_nil)))))) (Nat.le_of_ble_eq_true rfl)) eds_nil)) (Nat.le_of_ble_eq_true rfl)) eds_nil) (Nat.le_of_ble_eq_true rfl)) (eds_cons (ed_tup (eds_cons (ed_tup (eds_cons (ed_ixT h2 (ev_c (v := .int 0)) rfl) (eds_cons (ed_ixT h2 (ev_c (v := .int 1)) rfl) (eds_cons (ed_int ev_c) eds_nil))) (Nat.le_of_ble_eq_true rfl)) eds_nil) (Nat.le_of_ble_eq_true rfl)) (eds_cons (ed_tup (eds_cons (ed_tup (eds_cons (ed_str ev_c) (eds_cons (ed_ixT h2 (ev_c (v := .int 1)) rfl) eds_nil)) (Nat.le_of_ble_eq_true rfl)) (eds_cons (ed_tup (eds_cons (ed_str ev_c) (eds_cons (ed_ixT h2 (ev_c (v := .int 1)) rfl) eds_nil)) (Nat.le_of_ble_eq_true rfl)) (eds_cons (ed_tup (eds_cons (ed_str ev_c) (eds_cons (ed_ixT h2 (ev_c (v := .int 1)) rfl) eds_nil)) (Nat.le_of_ble_eq_true rfl)) (eds_cons (ed_tup (eds_cons (ed_str ev_c) (eds_cons (ed_ixT h2 (ev_c (v := .int 1)) rfl) eds_nil)) (Nat.le_of_ble_eq_true rfl)) (eds_cons (ed_tup (eds_cons (ed_str ev_c) (eds_cons (ed_ixT h2 (ev_c (v := .int 1)) rfl) eds_nil)) (Nat.le_of_ble_eq_true rfl)) eds_nil))))) (Nat.le_of_ble_eq_true rfl)) (eds_cons (ed_str ev_c) (eds_cons (ed_tup (eds_cons (ed_tup (eds_cons (ed_ixT h2 (ev_c (v := .int 0)) rfl) (eds_cons (ed_tup (eds_cons (ed_tup (eds_cons (ed_str ev_c) (eds_cons (ed_bl ev_c) eds_nil)) (Nat.le_of_ble_eq_true rfl)) eds_nil) (Nat.le_of_ble_eq_true rfl)) eds_nil)) (Nat.le_of_ble_eq_true rfl)) eds_nil) (Nat.le_of_ble_eq_true rfl)) (eds_cons (ed_tup (eds_cons (ed_lst (eds_cons (ed_ixT h2 (ev_c (v := .int 0)) rfl) (eds_cons (ed_ixT h2 (ev_c (v := .int 1)) rfl) eds_nil)) (Nat.le_of_ble_eq_true rfl)) eds_nil) (Nat.le_of_ble_eq_true rfl)) eds_nil)))))))))))))))))))))))) (Nat.le_of_ble_eq_true rfl)) fun v4 H3 e3 hv4 => ?_
    have hm : n % 24 = (((n % 24).toNat : Nat) : Int) := by omega
    have hlt : (n % 24).toNat < (badsOf a c cs r).length := by
      show (n % 24).toNat < 24
      omega
    have hi : atI (badsOf a c cs r) (n % 24) = some (badD ((a, c :: cs) :: r) n) := by
      have e0 : (badsOf a c cs r)[(n % 24).toNat]? = some (badD ((a, c :: cs) :: r) n) := by
        show _ = some ((badsOf a c cs r).getD (n % 24).toNat .none)
        rw [List.getD_eq_getElem?_getD, List.getElem?_eq_getElem hlt]
        rfl
      rw [hm]
      exact at_nat e0
    exact s_retD (K := K) (ed_ixL (ed_var rfl hv4) (ev_mod (ev_int1 (ev_var rfl)) ev_c (by decide)) hi) fun u H4 e4 hu => k u H4 (((e1.trans e2).trans e3).trans e4) hu
end
end K43
/-! _law_value, _law_row, _law_draws. -/
namespace K43
open PySem L2 Evl
/-! ### _law_value -/
abbrev sVal : Stmt := topS 28
theorem scVal : FnScope ["_law_kind", "_law_n"] ["_law_kind", "_law_n"] (defScope sVal) := ⟨rfl, rfl, rfl, by decide +kernel, rfl, by decide +kernel, by decide +kernel⟩
def numsL : List PyData := [.int 0, .int 1, .int 2, .int 3, .int 999999]
def txtsL : List PyData := [.str "red fox", .str "Fox; red-hen", .str "hen", .str "", .str "a fox 7", .str "RED"]
def valD (kd : Str) (n : Int) : PyData := if kd = "number" then numsL.getD (n % 5).toNat .none else txtsL.getD (n % 6).toNat .none
def spVal (K : PySem.W.Frag) : Sp := fun vs H Q _ => ∃ kd n, vs = [.str kd, .int n] ∧ ∀ H', Ex H H' → Q (vOf (valD kd n)) H'
theorem getD_at {xs : List PyData} {n : Int} {m : Nat} (hm : xs.length = m) (h0 : 0 < m) : atI xs (n % (m : Nat)) = some (xs.getD (n % (m : Nat)).toNat .none) := by
  have h1 : 0 ≤ n % (m : Nat) := Int.emod_nonneg _ (by omega)
  have h2 : n % (m : Nat) < (m : Nat) := Int.emod_lt_of_pos _ (by omega)
  have e : n % (m : Nat) = (((n % (m : Nat)).toNat : Nat) : Int) := by omega
  have hlt : (n % (m : Nat)).toNat < xs.length := by omega
  have g : atI xs (((n % (m : Nat)).toNat : Nat) : Int) = some (xs.getD (n % (m : Nat)).toNat .none) := by
    refine at_nat ?_
    rw [List.getD_eq_getElem?_getD, List.getElem?_eq_getElem hlt]
    rfl
  rw [← e] at g
  exact g
theorem all_getD {xs : List PyData} {p : PyData → Bool} (h : xs.all p = true) (h0 : p .none = true) (i : Nat) : p (xs.getD i .none) = true := by
  rw [List.getD_eq_getElem?_getD]
  cases e : xs[i]? with
  | none => exact h0
  | some d => exact List.all_eq_true.mp h d (List.mem_of_getElem? e)
theorem nums_flat (n : Nat) : flatD (numsL.getD n .none) = true := all_getD (by decide) rfl n
theorem txts_flat (n : Nat) : flatD (txtsL.getD n .none) = true := all_getD (by decide) rfl n
theorem val_flat (kd : Str) (n : Int) : flatD (valD kd n) = true := by
  unfold valD
  split
  · exact nums_flat _
  · exact txts_flat _
section
variable {P : Program} {w : World} {K : PySem.W.Frag} {mg : Str → Option Value} {base : Heap} {f : Addr} {fd : FuncData}
theorem ok_val (D : DefAt K mg "_law_value" sVal ["_law_kind", "_law_n"] f fd) (B : Blt mg) : FnOk P w K mg base CX0 1 f fd ["_law_kind", "_law_n"] (spVal K) := by
  refine D.F.ok scVal (fun vs H Q E h => ?_) (fun cdv A outer s H vs Q E hr h => ?_)
  · obtain ⟨kd, n, rfl, _⟩ := h
    rfl
  · obtain ⟨kd, n, rfl, k⟩ := h
    refine ⟨_, pss_cons (ps_if (pt_cmpR op_eq (pv 0) pe_str (nomark _)) (pss_one (ps_ret (pe_ix ix_list (pe_lst (pa_cons pe_int (pa_cons pe_int (pa_cons pe_int (pa_cons pe_int (pa_cons pe_int pa_nil)))))) (pe_op op_mod (pe_int1 B.int (pv 1)) pe_int) (fun _ _ => rfl)))) pss_nil)
      (pss_one (ps_ret (pe_ix ix_list (pe_lst (pa_cons pe_str (pa_cons pe_str (pa_cons pe_str (pa_cons pe_str (pa_cons pe_str (pa_cons pe_str pa_nil))))))) (pe_op op_mod (pe_int1 B.int (pv 1)) pe_int) (fun _ _ => rfl)))), ?_⟩
    refine q_when (b := decide (kd = "number")) (et_test (ev_eq (x := .str kd) (y := .str "number") (ev_var rfl) ev_c rfl str_dec)) (fun hb H1 e1 => ?_) (fun hb H1 e1 => ?_)
    · have ev : valD kd n = numsL.getD (n % 5).toNat .none := if_pos (of_decide_eq_true hb)
      refine s_ret (v := vOf (valD kd n)) ?_ fun H2 e2 => k H2 (e1.trans e2)
      rw [ev]
      exact ev_of (K := K) (ed_ixL (ed_lst (ds := numsL) (eds_cons (ed_int ev_c) (eds_cons (ed_int ev_c) (eds_cons (ed_int ev_c) (eds_cons (ed_int ev_c) (eds_cons (ed_int ev_c) eds_nil))))) (Nat.le_of_ble_eq_true rfl)) (ev_mod (ev_int1 (ev_var rfl)) ev_c (by decide)) (getD_at (m := 5) rfl (by decide))) fun hd => dp_flat hd (nums_flat _)
    · have ev : valD kd n = txtsL.getD (n % 6).toNat .none := if_neg (of_decide_eq_false hb)
      refine s_ret (v := vOf (valD kd n)) ?_ fun H2 e2 => k H2 (e1.trans e2)
      rw [ev]
      exact ev_of (K := K) (ed_ixL (ed_lst (ds := txtsL) (eds_cons (ed_str ev_c) (eds_cons (ed_str ev_c) (eds_cons (ed_str ev_c) (eds_cons (ed_str ev_c) (eds_cons (ed_str ev_c) (eds_cons (ed_str ev_c) eds_nil)))))) (Nat.le_of_ble_eq_true rfl)) (ev_mod (ev_int1 (ev_var rfl)) ev_c (by decide)) (getD_at (m := 6) rfl (by decide))) fun hd => dp_flat hd (txts_flat _)
end
/-! ### _law_row -/
abbrev sLRow : Stmt := topS 29
theorem scLRow : FnScope ["_law_fields", "_law_draws_here", "_law_start", "_law_k"] ["_law_fields", "_law_draws_here", "_law_start"] (defScope sLRow) := ⟨rfl, rfl, rfl, by decide +kernel, rfl, by decide +kernel, by decide +kernel⟩
def cellD (cs : Cols) (ns : List Int) (i : Nat) : PyData := valD (cs.getD i (Str.empty, Str.empty)).2 (ns.getD (1 + i) 0 / 3)
def mkRow (cs : Cols) (ns : List Int) : List PyData := (List.range cs.length).map (cellD cs ns)
def spLRow (K : PySem.W.Frag) : Sp := fun vs H Q _ => ∃ v u cs ns, vs = [v, u, .int 1] ∧ Dp K H v (colsD cs) ∧ Dp K H u (.list (ns.map .int)) ∧ cs.length + 1 ≤ ns.length ∧ cs.length ≤ 1000 ∧ ∀ y H', Ex H H' → Dp K H' y (.tuple (mkRow cs ns)) → Q y H'
theorem dp_vOf {K : PySem.W.Frag} {H : Hp} {d : PyData} (h : flatD d = true) : Dp K H (vOf d) d := by
  cases d with
  | none => exact .non
  | bool b => exact .bl b
  | int i => exact .int i
  | str x => exact .str x
  | _ => cases h
theorem dpa_vOf {K : PySem.W.Frag} {H : Hp} : ∀ {ds : List PyData}, (∀ d ∈ ds, flatD d = true) → DpAll K H (ds.map vOf) ds
  | [], _ => .nil
  | d :: ds, h => .cons (dp_vOf (h d List.mem_cons_self)) (dpa_vOf fun x hx => h x (List.mem_cons_of_mem _ hx))
theorem row_flat (cs : Cols) (ns : List Int) : ∀ d ∈ mkRow cs ns, flatD d = true := fun d hd => by
  unfold mkRow at hd
  obtain ⟨i, _, rfl⟩ := List.mem_map.mp hd
  exact val_flat _ _
section
variable {P : Program} {w : World} {K : PySem.W.Frag} {mg : Str → Option Value} {base : Heap} {f f1 : Addr} {fd fd1 : FuncData}
theorem ok_lrow (D : DefAt K mg "_law_row" sLRow ["_law_fields", "_law_draws_here", "_law_start"] f fd) (D1 : DefAt K mg "_law_value" sVal ["_law_kind", "_law_n"] f1 fd1) (B : Blt mg) : FnOk P w K mg base CX0 2 f fd ["_law_fields", "_law_draws_here", "_law_start"] (spLRow K) := by
  have G1 : FnOk P w K mg base CX0 1 f1 fd1 ["_law_kind", "_law_n"] (spVal K) := ok_val D1 B
  refine D.F.ok scLRow (fun vs H Q E h => ?_) (fun cdv A outer s H vs Q E hr h => ?_)
  · obtain ⟨v, u, cs, ns, rfl, _⟩ := h
    rfl
  · obtain ⟨v, u, cs, ns, rfl, hv, hu, hl, hl2, k⟩ := h
    refine ⟨_, pss_one (ps_ret (pe_callTy cr_tupOf rfl B.tuple PyProof.Rows.boot_tuple (pa_cons (pe_lc (own := [("_law_k", 3)]) (g := gName 3) (tt := tYes) rfl scLRow.nd (pi_range1 rfl B.range (pa_cons (pe_len B.len (pv 0)) pa_nil)) (blkOk_by (N := ["_law_fields", "_law_draws_here", "_law_start", "_law_k"]) (sc := defScope sLRow) (by decide +kernel)) (fun _ _ _ _ _ => pg_name (i := 3) scLRow.nd rfl (Or.inl rfl)) (fun _ _ _ _ _ => pts_nil)
        (fun _ _ _ _ _ => pe_call G1 hr rfl D1.g D1.F.kp D1.b .nil pass0 (pa_cons (pe_ix (r := rIxT K) ix_tup (pe_ix (r := rIxT K) ix_tup (pv 0) (pv 3) (fun _ _ => rfl)) pe_int (fun _ _ => rfl))
          (pa_cons (pe_op op_fdiv (pe_int1 B.int (pe_ix (r := rIxL K) ix_list (pv 1) (pe_op op_add (pv 2) (pv 3)) (fun _ _ => rfl))) pe_int) pa_nil)))) pa_nil))), ?_⟩
    have h0 : EvD K (tVar 0) (start ["_law_fields", "_law_draws_here", "_law_start", "_law_k"] [v, u, .int 1]) H (colsD cs) := ed_var rfl hv
    have hlc : lenD (colsD cs) = some cs.length := by
      show some (cs.map colD).length = _
      rw [List.length_map]
    refine s_retD (K := K) (d := .tuple (mkRow cs ns)) (ed_tupOf (ed_ofL (ds := mkRow cs ns) (el_lcR (fun i => vOf (cellD cs ns i)) (ea_cons (ev_lenD h0 hlc) ea_nil) (by omega) (fun _ => rfl) fun i H2 e2 hi => ?_) fun H3 => ?_)) fun y H1 e1 hy => k y H1 e1 hy
    · have hi2 : 1 + i < ns.length := by omega
      have ec : cs[i]? = some cs[i] := List.getElem?_eq_getElem hi
      have eD : (cs.map colD)[i]? = some (colD cs[i]) := by rw [List.getElem?_map, ec] <;> rfl
      have en : (ns.map PyData.int)[1 + i]? = some (.int ns[1 + i]) := by rw [List.getElem?_map, List.getElem?_eq_getElem hi2] <;> rfl
      have vk : Ev (tVar 3) ((wipe (start ["_law_fields", "_law_draws_here", "_law_start", "_law_k"] [v, u, .int 1]) [3]).set 3 (some (.int (i : Nat)))) H2 (.int (i : Nat)) := ev_var rfl
      have v2 : Ev (tVar 2) ((wipe (start ["_law_fields", "_law_draws_here", "_law_start", "_law_k"] [v, u, .int 1]) [3]).set 3 (some (.int (i : Nat)))) H2 (.int 1) := ev_var rfl
      have v0 : EvD K (tVar 0) ((wipe (start ["_law_fields", "_law_draws_here", "_law_start", "_law_k"] [v, u, .int 1]) [3]).set 3 (some (.int (i : Nat)))) H2 (colsD cs) := ed_var rfl (dp_ex e2 hv)
      have v1 : EvD K (tVar 1) ((wipe (start ["_law_fields", "_law_draws_here", "_law_start", "_law_k"] [v, u, .int 1]) [3]).set 3 (some (.int (i : Nat)))) H2 (.list (ns.map .int)) := ed_var rfl (dp_ex e2 hu)
      have hk : Ev _ _ H2 (.str cs[i].2) := ev_str (ed_ixT (ed_ixT v0 vk (at_nat eD)) (ev_c (v := .int 1)) rfl)
      have hs : Ev _ _ H2 (.int ((1 : Int) + (i : Nat))) := ev_op v2 vk (rv_I0 (g := fun i j => .int (i + j)))
      have es : (1 : Int) + ((i : Nat) : Int) = ((1 + i : Nat) : Int) := by omega
      have hn : Ev _ _ H2 (.int ns[1 + i]) := ev_int (ed_ixL v1 hs (by rw [es]; exact at_nat en))
      have hd : Ev _ _ H2 (.int (ns[1 + i] / 3)) := ev_op (ev_int1 hn) (ev_c (v := .int 3)) (rv_I (C := CDiv) (g := fun i j => .int (i / j)) ⟨by decide, by decide⟩)
      have ed : cellD cs ns i = valD cs[i].2 (ns[1 + i] / 3) := by
        unfold cellD
        rw [List.getD_eq_getElem?_getD, List.getD_eq_getElem?_getD, ec, List.getElem?_eq_getElem hi2]
        rfl
      rw [ed]
      exact fun H4 e4 Q' q => hk H4 e4 _ fun H5 e5 => hd H5 (e4.trans e5) _ fun H6 e6 => ⟨_, _, rfl, fun H' e' => q H' ((e5.trans e6).trans e')⟩
    · have em : (List.range cs.length).map (fun i => vOf (cellD cs ns i)) = (mkRow cs ns).map vOf := by
        unfold mkRow
        rw [List.map_map]
        rfl
      rw [em]
      exact dpa_vOf (row_flat cs ns)
end
end K43
/-! _law_draws: eight whole numbers. -/
namespace K43
open PySem L2 Evl
abbrev sDrw : Stmt := topS 25
theorem scDrw : FnScope ["_law_cell", "_law_many", "_law_rows", "_law_rest", "_law_k", "_law_state"] ["_law_cell", "_law_many"] (defScope sDrw) := ⟨rfl, rfl, rfl, by decide +kernel, rfl, by decide +kernel, by decide +kernel⟩
def spDrw : Sp := fun vs H Q _ => ∃ c : Int, vs = [.int c, .int 8] ∧ ∀ (ns : List Int) (p : Addr) (H' : Hp), ns.length = 8 → Ex H H' → H' p = some (.lst (ns.map V.int)) → Q (.ref p) H'
section
variable {P : Program} {w : World} {K : PySem.W.Frag} {mg : Str → Option Value} {base : Heap} {f : Addr} {fd : FuncData}
/-- the rows so far at l: at most eight whole numbers -/
def Rows (H : Hp) (l : Addr) (ns : List Int) (H' : Hp) : Prop := H l = none ∧ Ex H H' ∧ H' l = some (.lst (ns.map V.int)) ∧ ns.length ≤ 8
theorem Rows.grow {H H1 H2 : Hp} {l : Addr} {ns : List Int} (R : Rows H l ns H1) (e : Ex H1 H2) : Rows H l ns H2 := ⟨R.1, R.2.1.trans e, e _ _ R.2.2.1, R.2.2.2⟩
theorem Rows.app {H H1 H2 : Hp} {l : Addr} {ns : List Int} {z : Int} (R : Rows H l ns H1) (e : Ex H1 H2) (h : ns.length < 8) : Rows H l (ns ++ [z]) (upd H2 l (.lst (ns.map V.int ++ [.int z]))) := by
  refine ⟨R.1, (R.2.1.trans e).mut R.1, ?_, ?_⟩
  · rw [upd_same, List.map_append]
    rfl
  · rw [List.length_append]
    show ns.length + 1 ≤ 8
    omega
theorem ok_drw (D : DefAt K mg "_law_draws" sDrw ["_law_cell", "_law_many"] f fd) (B : Blt mg) : FnOk P w K mg base CX0 1 f fd ["_law_cell", "_law_many"] spDrw := by
  refine D.F.ok scDrw (fun vs H Q E h => ?_) (fun cdv A outer s H vs Q E hr h => ?_)
  · obtain ⟨c, rfl, _⟩ := h
    rfl
  · obtain ⟨c, rfl, k⟩ := h
    refine ⟨_, pss_cons (ps_set (i := 2) scDrw.nd rfl (Or.inl rfl) (pe_lst pa_nil))
      (pss_cons (ps_set (i := 3) scDrw.nd rfl (Or.inl rfl) (pe_int1 B.int (pv 0)))
      (pss_cut (ps_if (pt_cmpR op_ge (pv 3) (pe_op op_pow pe_int pe_int) (nomark _)) (pss_one (ps_for PassesOwn.never rfl (pi_range1 rfl B.range (pa_cons (pv 1) pa_nil)) (pg_name (i := 4) scDrw.nd rfl (Or.inl rfl))
          (pss_one (ps_if (pt_cmpR op_gt (pv 3) pe_int (nomark _)) (pss_cons (ps_expr (pe_bm PySem.F.plainAttrs_list PySem.F.slot_list_append PySem.F.type_list_append mt_append (pv 2) (pa_cons (pe_op op_mod (pe_int1 B.int (pv 3)) pe_int) pa_nil)))
            (pss_one (ps_set (i := 3) scDrw.nd rfl (Or.inl rfl) (pe_op op_fdiv (pv 3) pe_int)))) pss_nil)))) pss_nil)
      (pss_cons (ps_set (i := 5) scDrw.nd rfl (Or.inl rfl) (pe_op op_mod (pe_int1 B.int (pe_op op_add (pe_op op_mul (pe_int1 B.int (pv 0)) pe_int) pe_int)) pe_int))
      (pss_cons (ps_for PassesOwn.never rfl (pi_range1 rfl B.range (pa_cons (pv 1) pa_nil)) (pg_name (i := 4) scDrw.nd rfl (Or.inl rfl))
          (pss_cons (ps_set (i := 5) scDrw.nd rfl (Or.inl rfl) (pe_op op_mod (pe_int1 B.int (pe_op op_add (pe_op op_add (pe_op op_mul (pv 5) pe_int) (pe_op op_mul (pv 4) pe_int)) pe_int)) pe_int))
          (pss_one (ps_if (pt_cmpR op_lt (pe_len B.len (pv 2)) (pv 1) (nomark _)) (pss_one (ps_expr (pe_bm PySem.F.plainAttrs_list PySem.F.slot_list_append PySem.F.type_list_append mt_append (pv 2)
            (pa_cons (pe_op op_mod (pe_int1 B.int (pe_op op_mod (pe_int1 B.int (pe_op op_add (pe_op op_mul (pv 5) pe_int) pe_int)) pe_int)) pe_int) pa_nil)))) pss_nil))))
      (pss_one (ps_ret (pv 2))))))), ?_⟩
    refine q_asgL (xs := []) (el_lst ea_nil (by decide)) fun l H1 hl e1 h1 => ?_
    refine q_asg (v := .int c) (ev_int1 (ev_var rfl)) fun H2 e2 => ?_
    have R2 : Rows H l [] H2 := ⟨hl, e1.trans e2, e2 _ _ h1, by decide⟩
    -- if rest >= 10 ** 18
    refine q_cut (M := fun σ' H' => ∃ ns r o4, σ' = [some (.int c), some (.int 8), some (.ref l), some (.int r), o4, none] ∧ Rows H l ns H') ?_ ?_
    · refine s_when (b := decide ((10 : Int) ^ (18 : Int).toNat ≤ c)) (et_test (ev_op (x := .int c) (ev_var rfl) (ev_op (ev_c (v := .int 10)) (ev_c (v := .int 18)) (rv_I (C := CPow) (g := fun i j => .int (i ^ j.toNat)) ⟨by decide, by decide, by decide⟩)) (rv_I0 (g := fun i j => .bl (decide (j ≤ i)))))) (fun _ H3 e3 => ?_) (fun _ H3 e3 => ⟨[], c, none, rfl, R2.grow e3⟩)
      refine s_forR1 (n := 8) (ea_cons (ev_var rfl) ea_nil) ⟨by decide, by decide⟩ (fun i σ' H' => ∃ ns r o4, σ' = [some (.int c), some (.int 8), some (.ref l), some (.int r), o4, none] ∧ Rows H l ns H' ∧ ns.length ≤ i) (fun H4 e4 => ⟨[], c, none, rfl, (R2.grow e3).grow e4, Nat.zero_le _⟩) ?_ ?_
      · rintro i σ' H' hi ⟨ns, r, o4, rfl, R, hn⟩
        refine s_when (b := decide ((0 : Int) < r)) (et_test (ev_op (x := .int r) (ev_var rfl) (ev_c (v := .int 0)) (rv_I0 (g := fun i j => .bl (decide (j < i)))))) (fun _ H4 e4 => ?_) (fun _ H4 e4 => ⟨ns, r, _, rfl, R.grow e4, by omega⟩)
        have R4 := R.grow e4
        refine q_app (K := K) (v := .int (r % 1000)) R4.2.2.1 (ev_var rfl) (ev_mod (ev_int1 (ev_var rfl)) ev_c (by decide)) (by rw [List.length_map]; omega) fun H5 e5 => ?_
        refine s_asg (v := .int (r / 1000)) (ev_op (x := .int r) (ev_var rfl) (ev_c (v := .int 1000)) (rv_I (C := CDiv) (g := fun i j => .int (i / j)) ⟨by decide, by decide⟩)) fun H6 e6 => ?_
        refine ⟨ns ++ [r % 1000], _, _, rfl, (R4.app e5 (by omega)).grow e6, ?_⟩
        rw [List.length_append]
        show ns.length + 1 ≤ i + 1
        omega
      · rintro σ' H' ⟨ns, r, o4, rfl, R, hn⟩
        exact ⟨ns, r, o4, rfl, R⟩
    · rintro σ' H' ⟨ns, r, o4, rfl, R⟩
      have small : ∀ {i : Int}, RV (rI CMul fun i j => V.int (i * j)) (.int i) (.int 48271) H' (.int (i * 48271)) := fun {i} => rv_I (C := CMul) (g := fun i j => .int (i * j)) (.inr ⟨by decide, by decide⟩)
      refine q_asg (ev_mod (ev_int1 (ev_op (ev_op (ev_int1 (ev_var (v := .int c) rfl)) ev_c small) (ev_c (v := .int 11)) (rv_I0 (g := fun i j => .int (i + j))))) ev_c (by decide)) fun H3 e3 => ?_
      refine q_forR1 (n := 8) (ea_cons (ev_var rfl) ea_nil) ⟨by decide, by decide⟩ (fun i σ' H' => ∃ ns o4 z, σ' = [some (.int c), some (.int 8), some (.ref l), some (.int r), o4, some (.int z)] ∧ Rows H l ns H' ∧ i ≤ ns.length) (fun H4 e4 => ⟨ns, o4, _, rfl, (R.grow e3).grow e4, Nat.zero_le _⟩) ?_ ?_
      · rintro i σ' H4 hi ⟨ms, o5, z, rfl, R4, hm⟩
        have mul : ∀ {a b : Int} {H9 : Hp}, -(2 ^ 64) < b → b < 2 ^ 64 → RV (rI CMul fun i j => V.int (i * j)) (.int a) (.int b) H9 (.int (a * b)) := fun {a b H9} h1 h2 => rv_I (C := CMul) (g := fun i j => .int (i * j)) (.inr ⟨h1, h2⟩)
        have add : ∀ {a b : Int} {H9 : Hp}, RV (rI0 fun i j => V.int (i + j)) (.int a) (.int b) H9 (.int (a + b)) := fun {a b H9} => rv_I0 (g := fun i j => .int (i + j))
        refine q_asg (ev_mod (ev_int1 (ev_op (ev_op (ev_op (ev_var (v := .int z) rfl) (ev_c (v := .int 48271)) (mul (by decide) (by decide))) (ev_op (ev_var (v := .int (i : Nat)) rfl) (ev_c (v := .int 69621)) (mul (by decide) (by decide))) add) (ev_c (v := .int 7)) add)) (ev_c (v := .int 2147483647)) (by decide)) fun H5 e5 => ?_
        have R5 := R4.grow e5
        refine s_when (b := decide (((ms.length : Nat) : Int) < 8)) (et_test (ev_op (x := .int (ms.length : Nat)) (ev_lenD (K := K) (d := .list (ms.map .int)) (ed_var rfl (.lst (sq_of R5.2.2.1) (dpa_of_ints ms))) (by show some _ = _; rw [List.length_map])) (ev_var (v := .int 8) rfl) (rv_I0 (g := fun i j => .bl (decide (i < j)))))) (fun hb H6 e6 => ?_) (fun hb H6 e6 => ?_)
        · have hlt : ms.length < 8 := by
            have q := of_decide_eq_true hb
            omega
          have R6 := R5.grow e6
          refine s_app (K := K) R6.2.2.1 (ev_var rfl) (ev_mod (ev_int1 (ev_mod (ev_int1 (ev_op (ev_op (ev_var rfl) (ev_c (v := .int 69621)) (mul (by decide) (by decide))) (ev_c (v := .int 5)) add)) (ev_c (v := .int 2147483629)) (by decide))) (ev_c (v := .int 1000)) (by decide)) (by rw [List.length_map]; omega) fun H7 e7 => ?_
          refine ⟨_, _, _, rfl, R6.app e7 hlt, ?_⟩
          rw [List.length_append]
          show i + 1 ≤ ms.length + 1
          omega
        · have hge : ¬ ms.length < 8 := by
            have q := of_decide_eq_false hb
            omega
          exact ⟨ms, _, _, rfl, R5.grow e6, by omega⟩
      · rintro σ' H4 ⟨ms, o5, z, rfl, R4, hm⟩
        have h8 : ms.length = 8 := by
          have q := R4.2.2.2
          have q2 : (8 : Int).toNat = 8 := rfl
          omega
        show tRet (tVar 2) { nx := fun _ H' => Q V.non H', rt := Q } _ H4
        exact s_ret (v := .ref l) (ev_var rfl) fun H5 e5 => k ms l H5 h8 (R4.2.1.trans e5) (e5 _ _ R4.2.2.1)
end
end K43
/-! _law_same: True of the same data on both sides. -/
namespace K43
open PySem L2 Evl
abbrev sSam : Stmt := topS 26
theorem scSam : FnScope ["_law_told", "_law_due", "_law_k"] ["_law_told", "_law_due"] (defScope sSam) := ⟨rfl, rfl, rfl, by decide +kernel, rfl, by decide +kernel, by decide +kernel⟩
/-- data of at most n layers -/
def okD : Nat → PyData → Bool
  | 0, _ => false
  | _ + 1, .none => true
  | _ + 1, .bool _ => true
  | _ + 1, .int _ => true
  | _ + 1, .str _ => true
  | n + 1, .list ds => decide (ds.length ≤ 1000) && ds.all (okD n)
  | n + 1, .tuple ds => decide (ds.length ≤ 1000) && ds.all (okD n)
  | _ + 1, .dict _ => false
def spSam (K : PySem.W.Frag) (n : Nat) : Sp := fun vs H Q _ => ∃ v u d, vs = [v, u] ∧ Dp K H v d ∧ Dp K H u d ∧ okD n d = true ∧ ∀ H', Ex H H' → Q (.bl true) H'
/-- a list's or a tuple's item -/
def rIxLT (K : PySem.W.Frag) : R2 := fun x y H Q => rIxL K x y H Q ∨ rIxT K x y H Q
theorem ix_lt {X : Cx} : IxR X (rIxLT X.K) := ix_list.or ix_tup
section
variable {P : Program} {w : World} {K : PySem.W.Frag} {mg : Str → Option Value} {base : Heap} {f : Addr} {fd : FuncData}
theorem ed_ixLT {σ : L2.St} {H : Hp} {ta tb : TE} {ds : List PyData} {d d' : PyData} {i : Int} (ha : EvD K ta σ H d) (hd : d = .list ds ∨ d = .tuple ds) (hb : Ev tb σ H (.int i)) (hi : atI ds i = some d') : EvD K (tOp (rIxLT K) ta tb) σ H d' := fun H1 e Q q => by
  rcases hd with rfl | rfl
  · exact ha H1 e _ fun v H2 e2 hv => hb H2 (e.trans e2) _ fun H3 e3 => .inl (by
      cases hv with
      | lst hs hall =>
        obtain ⟨x, hx, hd⟩ := dpa_at hall hi
        exact ⟨_, _, i, x, rfl, rfl, ex_l e3 hs, hx, q x H3 (e2.trans e3) (dp_ex e3 hd)⟩)
  · exact ha H1 e _ fun v H2 e2 hv => hb H2 (e.trans e2) _ fun H3 e3 => .inr (by
      cases hv with
      | tup hs hall =>
        obtain ⟨x, hx, hd⟩ := dpa_at hall hi
        exact ⟨_, _, i, x, rfl, rfl, ex_t e3 hs, hx, q x H3 (e2.trans e3) (dp_ex e3 hd)⟩)
theorem ev_isNv {σ : L2.St} {H : Hp} {ta : TE} {x : V} {b : Bool} (h : Ev ta σ H x) (e : decide (x = .non) = b) : Ev (tOp rIsN ta (tC .non)) σ H (.bl b) := by
  rw [← e]
  exact ev_op h ev_c fun H1 e1 Q q => ⟨rfl, q H1 (Ex.refl H1)⟩
theorem ev_isBv {σ : L2.St} {H : Hp} {ta : TE} {x : V} {c b : Bool} (h : Ev ta σ H x) (ok : isOk x = true) (e : decide (x = .bl c) = b) : Ev (tOp rIsBx ta (tC (.bl c))) σ H (.bl b) := by
  rw [← e]
  exact ev_op h ev_c fun H1 e1 Q q => ⟨c, rfl, ok, q H1 (Ex.refl H1)⟩
theorem ok_sam (D : DefAt K mg "_law_same" sSam ["_law_told", "_law_due"] f fd) (B : Blt mg) : ∀ n, FnOk P w K mg base CX0 n f fd ["_law_told", "_law_due"] (spSam K n)
  | 0 => ⟨fun vs H Q E h => by obtain ⟨v, u, d, rfl, _⟩ := h; rfl, fun A outer s H args us vs Q E hr he hb hv h => by obtain ⟨v, u, d, rfl, _, _, h0, _⟩ := h; cases h0⟩
  | n + 1 => by
    have G : FnOk P w K mg base CX0 n f fd ["_law_told", "_law_due"] (spSam K n) := ok_sam D B n
    refine D.F.ok scSam (fun vs H Q E h => ?_) (fun cdv A outer s H vs Q E hr h => ?_)
    · obtain ⟨v, u, d, rfl, _⟩ := h
      rfl
    · obtain ⟨v, u, d, rfl, hv, hu, hok, k⟩ := h
      refine ⟨_, pss_cons (ps_if (pt_cmpR op_isN1 (pv 1) pe_non (nomark _)) (pss_one (ps_ret (pe_cmpR op_isN1 (pv 0) pe_non (nomark _)))) pss_nil)
        (pss_cons (ps_if (pt_cmpR op_isBx (pv 1) pe_bl (nomark _)) (pss_one (ps_ret (pe_cmpR op_isBx (pv 0) pe_bl (nomark _)))) pss_nil)
        (pss_cons (ps_if (pt_cmpR op_isBx (pv 1) pe_bl (nomark _)) (pss_one (ps_ret (pe_cmpR op_isBx (pv 0) pe_bl (nomark _)))) pss_nil)
        (pss_cons (ps_if (pt_val (pe_isi B.isi B.int PyProof.Rows.boot_int (pv 1))) (pss_one (ps_ret (pe_and (pe_isi B.isi B.int PyProof.Rows.boot_int (pv 0)) (pe_and (pe_not (pe_isi B.isi B.bool PyProof.Rows.boot_bool (pv 0))) (pe_one (pe_cmpR op_eq (pv 0) (pv 1) (nomark _))))))) pss_nil)
        (pss_cons (ps_if (pt_val (pe_isi B.isi B.str PyProof.Rows.boot_str (pv 1))) (pss_one (ps_ret (pe_and (pe_isi B.isi B.str PyProof.Rows.boot_str (pv 0)) (pe_one (pe_cmpR op_eq (pv 0) (pv 1) (nomark _)))))) pss_nil)
        (pss_cons (ps_if (PW.pt (pw_and (pt_val (pe_isi B.isi B.tuple PyProof.Rows.boot_tuple (pv 1))) (pw_and1 (pt_not (pt_val (pe_isi B.isi B.tuple PyProof.Rows.boot_tuple (pv 0))))))) (pss_one (ps_ret pe_bl)) pss_nil)
        (pss_cons (ps_if (PW.pt (pw_and (pt_val (pe_isi B.isi B.list PyProof.Rows.boot_list (pv 1))) (pw_and1 (pt_not (pt_val (pe_isi B.isi B.list PyProof.Rows.boot_list (pv 0))))))) (pss_one (ps_ret pe_bl)) pss_nil)
        (pss_cons (ps_if (pt_cmpR op_ne (pe_len B.len (pv 0)) (pe_len B.len (pv 1)) (nomark _)) (pss_one (ps_ret pe_bl)) pss_nil)
        (pss_cons (ps_for PassesOwn.never rfl (pi_range1 rfl B.range (pa_cons (pe_len B.len (pv 1)) pa_nil)) (pg_name (i := 2) scSam.nd rfl (Or.inl rfl))
          (pss_one (ps_if (pt_not (pt_val (pe_call G hr rfl D.g D.F.kp D.b .nil pass0 (pa_cons (pe_ix ix_lt (pv 0) (pv 2) (fun _ _ => rfl)) (pa_cons (pe_ix ix_lt (pv 1) (pv 2) (fun _ _ => rfl)) pa_nil))))) (pss_one (ps_ret pe_bl)) pss_nil)))
        (pss_one (ps_ret pe_bl)))))))))), ?_⟩
      have told : ∀ {H1 : Hp}, Ex H H1 → EvD K (tVar 0) (start ["_law_told", "_law_due", "_law_k"] [v, u]) H1 d := fun e => ed_var rfl (dp_ex e hv)
      have due : ∀ {H1 : Hp}, Ex H H1 → EvD K (tVar 1) (start ["_law_told", "_law_due", "_law_k"] [v, u]) H1 d := fun e => ed_var rfl (dp_ex e hu)
      cases d with
      | none =>
        have ev := dp_non hv
        have eu := dp_non hu
        subst ev eu
        refine q_when (b := true) (et_test (ev_isNv (ev_var rfl) (by simp))) (fun _ H1 e1 => ?_) (fun hb => absurd hb (by decide))
        exact s_ret (v := .bl true) (ev_isNv (ev_var rfl) (by simp)) fun H2 e2 => k H2 (e1.trans e2)
      | bool c =>
        have ev := dp_bl hv
        have eu := dp_bl hu
        subst ev eu
        refine q_when (b := false) (et_test (ev_isNv (ev_var rfl) (by simp))) (fun hb => absurd hb (by decide)) (fun _ H1 e1 => ?_)
        cases c with
        | true =>
          refine q_when (b := true) (et_test (ev_isBv (ev_var rfl) rfl (by simp))) (fun _ H2 e2 => ?_) (fun hb => absurd hb (by decide))
          exact s_ret (v := .bl true) (ev_isBv (ev_var rfl) rfl (by simp)) fun H3 e3 => k H3 ((e1.trans e2).trans e3)
        | false =>
          refine q_when (b := false) (et_test (ev_isBv (ev_var rfl) rfl (by simp))) (fun hb => absurd hb (by decide)) (fun _ H2 e2 => ?_)
          refine q_when (b := true) (et_test (ev_isBv (ev_var rfl) rfl (by simp))) (fun _ H3 e3 => ?_) (fun hb => absurd hb (by decide))
          exact s_ret (v := .bl true) (ev_isBv (ev_var rfl) rfl (by simp)) fun H4 e4 => k H4 (((e1.trans e2).trans e3).trans e4)
      | int i =>
        have ev := dp_int hv
        have eu := dp_int hu
        subst ev eu
        refine q_when (b := false) (et_test (ev_isNv (ev_var rfl) (by simp))) (fun hb => absurd hb (by decide)) (fun _ H1 e1 => ?_)
        refine q_when (b := false) (et_test (ev_isBv (ev_var rfl) rfl (by simp))) (fun hb => absurd hb (by decide)) (fun _ H2 e2 => ?_)
        refine q_when (b := false) (et_test (ev_isBv (ev_var rfl) rfl (by simp))) (fun hb => absurd hb (by decide)) (fun _ H3 e3 => ?_)
        have e3' := (e1.trans e2).trans e3
        refine q_when (b := true) (et_B (ev_isInt (due e3'))) (fun _ H4 e4 => ?_) (fun hb => absurd hb (by decide))
        have e4' := e3'.trans e4
        exact s_ret (v := .bl true) (ev_andV (a := true) (b := true) (ev_isInt (told e4')) fun _ => ev_andV (a := true) (b := true) (ev_notV (a := false) (ev_isBool (told e4'))) fun _ => ev_eq (ev_int (told e4')) (ev_int (due e4')) rfl (by simp)) fun H5 e5 => k H5 (e4'.trans e5)
      | str z =>
        have ev := dp_str hv
        have eu := dp_str hu
        subst ev eu
        refine q_when (b := false) (et_test (ev_isNv (ev_var rfl) (by simp))) (fun hb => absurd hb (by decide)) (fun _ H1 e1 => ?_)
        refine q_when (b := false) (et_test (ev_isBv (ev_var rfl) rfl (by simp))) (fun hb => absurd hb (by decide)) (fun _ H2 e2 => ?_)
        refine q_when (b := false) (et_test (ev_isBv (ev_var rfl) rfl (by simp))) (fun hb => absurd hb (by decide)) (fun _ H3 e3 => ?_)
        have e3' := (e1.trans e2).trans e3
        refine q_when (b := false) (et_B (ev_isInt (due e3'))) (fun hb => absurd hb (by decide)) (fun _ H4 e4 => ?_)
        refine q_when (b := true) (et_B (ev_isStr (due (e3'.trans e4)))) (fun _ H5 e5 => ?_) (fun hb => absurd hb (by decide))
        have e5' := (e3'.trans e4).trans e5
        exact s_ret (v := .bl true) (ev_andV (a := true) (b := true) (ev_isStr (told e5')) fun _ => ev_eq (ev_str (told e5')) (ev_str (due e5')) rfl (by simp)) fun H6 e6 => k H6 (e5'.trans e6)
      | dict _ => cases hok
      | list ds =>
        obtain ⟨hl, hall⟩ := Bool.and_eq_true_iff.mp (show (decide (ds.length ≤ 1000) && ds.all (okD n)) = true from hok)
        have hl' := of_decide_eq_true hl
        have hall' : ∀ c ∈ ds, okD n c = true := List.all_eq_true.mp hall
        cases hu with
        | @lst a xs _ hs ha =>
          refine q_when (b := false) (et_test (ev_isNv (ev_var rfl) (by simp))) (fun hb => absurd hb (by decide)) (fun _ H1 e1 => ?_)
          refine q_when (b := false) (et_test (ev_isBv (ev_var rfl) rfl (by simp))) (fun hb => absurd hb (by decide)) (fun _ H2 e2 => ?_)
          refine q_when (b := false) (et_test (ev_isBv (ev_var rfl) rfl (by simp))) (fun hb => absurd hb (by decide)) (fun _ H3 e3 => ?_)
          have e3' := (e1.trans e2).trans e3
          refine q_when (b := false) (et_B (ev_isInt (due e3'))) (fun hb => absurd hb (by decide)) (fun _ H4 e4 => ?_)
          have e4' := e3'.trans e4
          refine q_when (b := false) (et_B (ev_isStr (due e4'))) (fun hb => absurd hb (by decide)) (fun _ H5 e5 => ?_)
          have e5' := e4'.trans e5
          refine q_when (b := false) (et_and (a := false) (b := false) (et_B (ev_isTup (due e5'))) fun hz => absurd hz (by decide)) (fun hb => absurd hb (by decide)) (fun _ H6 e6 => ?_)
          have e6' := e5'.trans e6
          refine q_when (b := false) (et_and (a := true) (b := false) (et_B (ev_isLst (due e6'))) fun _ => et_not (a := true) (et_B (ev_isLst (told e6')))) (fun hb => absurd hb (by decide)) (fun _ H7 e7 => ?_)
          have e7' := e6'.trans e7
          refine q_when (b := false) (et_test (ev_ne (ev_lenD (n := ds.length) (told e7') rfl) (ev_lenD (n := ds.length) (due e7') rfl) rfl (by simp))) (fun hb => absurd hb (by decide)) (fun _ H8 e8 => ?_)
          have e8' := e7'.trans e8
          refine q_forR1 (n := (ds.length : Nat)) (ea_cons (ev_lenD (n := ds.length) (due e8') rfl) ea_nil) ⟨by omega, by omega⟩ (fun i σ' H' => Ex H H' ∧ ∃ o, σ' = [some v, some (.ref a), o]) (fun H9 e9 => ⟨e8'.trans e9, none, rfl⟩) ?_ ?_
          · rintro i σ' H' hi ⟨e', o, rfl⟩
            have hi2 : i < ds.length := by omega
            have ei : ds[i]? = some ds[i] := List.getElem?_eq_getElem hi2
            refine s_when (b := false) (et_not (a := true) (et_B ?_)) (fun hb => absurd hb (by decide)) (fun _ H9 e9 => ⟨e'.trans e9, _, rfl⟩)
            have t1 : EvD K _ [some v, some (.ref a), some (.int (i : Nat))] H' ds[i] := ed_ixLT (ta := tVar 0) (tb := tVar 2) (d := .list ds) (ed_var rfl (dp_ex e' hv)) (.inl rfl) (ev_var rfl) (at_nat ei)
            have t2 : EvD K _ [some v, some (.ref a), some (.int (i : Nat))] H' ds[i] := ed_ixLT (ta := tVar 1) (tb := tVar 2) (d := .list ds) (ed_var rfl (dp_ex e' (.lst hs ha))) (.inl rfl) (ev_var rfl) (at_nat ei)
            exact fun H9 e9 Q' q => t1 H9 e9 _ fun x H10 e10 hx => t2 H10 (e9.trans e10) _ fun y H11 e11 hy => ⟨x, y, ds[i], rfl, dp_ex e11 hx, hy, hall' _ (List.getElem_mem hi2), fun H' e'' => q H' ((e10.trans e11).trans e'')⟩
          · rintro σ' H' ⟨e', o, rfl⟩
            exact s_ret (D := { nx := fun _ H' => Q V.non H', rt := Q }) (v := .bl true) ev_c fun H9 e9 => k H9 (e'.trans e9)
      | tuple ds =>
        obtain ⟨hl, hall⟩ := Bool.and_eq_true_iff.mp (show (decide (ds.length ≤ 1000) && ds.all (okD n)) = true from hok)
        have hl' := of_decide_eq_true hl
        have hall' : ∀ c ∈ ds, okD n c = true := List.all_eq_true.mp hall
        cases hu with
        | @tup a xs _ hs ha =>
          refine q_when (b := false) (et_test (ev_isNv (ev_var rfl) (by simp))) (fun hb => absurd hb (by decide)) (fun _ H1 e1 => ?_)
          refine q_when (b := false) (et_test (ev_isBv (ev_var rfl) rfl (by simp))) (fun hb => absurd hb (by decide)) (fun _ H2 e2 => ?_)
          refine q_when (b := false) (et_test (ev_isBv (ev_var rfl) rfl (by simp))) (fun hb => absurd hb (by decide)) (fun _ H3 e3 => ?_)
          have e3' := (e1.trans e2).trans e3
          refine q_when (b := false) (et_B (ev_isInt (due e3'))) (fun hb => absurd hb (by decide)) (fun _ H4 e4 => ?_)
          have e4' := e3'.trans e4
          refine q_when (b := false) (et_B (ev_isStr (due e4'))) (fun hb => absurd hb (by decide)) (fun _ H5 e5 => ?_)
          have e5' := e4'.trans e5
          refine q_when (b := false) (et_and (a := true) (b := false) (et_B (ev_isTup (due e5'))) fun _ => et_not (a := true) (et_B (ev_isTup (told e5')))) (fun hb => absurd hb (by decide)) (fun _ H6 e6 => ?_)
          have e6' := e5'.trans e6
          refine q_when (b := false) (et_and (a := false) (b := false) (et_B (ev_isLst (due e6'))) fun hz => absurd hz (by decide)) (fun hb => absurd hb (by decide)) (fun _ H7 e7 => ?_)
          have e7' := e6'.trans e7
          refine q_when (b := false) (et_test (ev_ne (ev_lenD (n := ds.length) (told e7') rfl) (ev_lenD (n := ds.length) (due e7') rfl) rfl (by simp))) (fun hb => absurd hb (by decide)) (fun _ H8 e8 => ?_)
          have e8' := e7'.trans e8
          refine q_forR1 (n := (ds.length : Nat)) (ea_cons (ev_lenD (n := ds.length) (due e8') rfl) ea_nil) ⟨by omega, by omega⟩ (fun i σ' H' => Ex H H' ∧ ∃ o, σ' = [some v, some (.ref a), o]) (fun H9 e9 => ⟨e8'.trans e9, none, rfl⟩) ?_ ?_
          · rintro i σ' H' hi ⟨e', o, rfl⟩
            have hi2 : i < ds.length := by omega
            have ei : ds[i]? = some ds[i] := List.getElem?_eq_getElem hi2
            refine s_when (b := false) (et_not (a := true) (et_B ?_)) (fun hb => absurd hb (by decide)) (fun _ H9 e9 => ⟨e'.trans e9, _, rfl⟩)
            have t1 : EvD K _ [some v, some (.ref a), some (.int (i : Nat))] H' ds[i] := ed_ixLT (ta := tVar 0) (tb := tVar 2) (d := .tuple ds) (ed_var rfl (dp_ex e' hv)) (.inr rfl) (ev_var rfl) (at_nat ei)
            have t2 : EvD K _ [some v, some (.ref a), some (.int (i : Nat))] H' ds[i] := ed_ixLT (ta := tVar 1) (tb := tVar 2) (d := .tuple ds) (ed_var rfl (dp_ex e' (.tup hs ha))) (.inr rfl) (ev_var rfl) (at_nat ei)
            exact fun H9 e9 Q' q => t1 H9 e9 _ fun x H10 e10 hx => t2 H10 (e9.trans e10) _ fun y H11 e11 hy => ⟨x, y, ds[i], rfl, dp_ex e11 hx, hy, hall' _ (List.getElem_mem hi2), fun H' e'' => q H' ((e10.trans e11).trans e'')⟩
          · rintro σ' H' ⟨e', o, rfl⟩
            exact s_ret (D := { nx := fun _ H' => Q V.non H', rt := Q }) (v := .bl true) ev_c fun H9 e9 => k H9 (e'.trans e9)
end
end K43
/-! _law_refused: True of what is no schema. -/
namespace K43
open PySem L2 Evl
abbrev sRef : Stmt := topS 34
theorem scRef : FnScope ["_law_schema_here", "e"] ["_law_schema_here"] (defScope sRef) := ⟨rfl, rfl, rfl, by decide +kernel, rfl, by decide +kernel, by decide +kernel⟩
def spRef (K : PySem.W.Frag) : Sp := fun vs H Q _ => ∃ v d, vs = [v] ∧ Dp K H v d ∧ schPre d = true ∧ schF d = false ∧ ∀ H', Ex H H' → Q (.bl true) H'
/-- what the written part says of the caught class beside InvTxt -/
structure RefTxt (K : PySem.W.Frag) (mg : Str → Option Value) (C Ak Bq : Addr) : Prop where
  xf : XfC K C
  ex : ExcC K C
  gA : mg "AskError" = some (.ref Ak)
  gB : mg "BadQuestion" = some (.ref Bq)
  yA : PySem.W.kitOne K (.ref C) (.ref Ak) = some true
  nB : PySem.W.kitOne K (.ref C) (.ref Bq) = some false
  te : PySem.W.exmOne K (.ref C) (.ref C) = some true
def rIsED (K : PySem.W.Frag) (D a : Addr) (cls : Value) (d : Option Addr) : List V → Hp → VK → Prop := fun xs H Q => cls = .ref D ∧ (∃ dd fs, d = some dd ∧ H dd = some (.xd fs)) ∧ rIsE K D a xs H Q
theorem call_isEV {X : Cx} {a D : Addr} {oe : Obj} {cls : Value} {d : Option Addr} {pn : List (Addr × Obj)} (C : ExcC X.K D) (hz : Zc cls d oe) (hf : ∃ vs, oe.data = .fields vs) :
    CallR (X.suite a ((a, oe) :: pn)) (.builtin "isinstance") (rIsED X.K D a cls d) := by
  intro pins s σ H xs us Q I r h
  obtain ⟨rfl, ⟨dd, fs, rfl, hd⟩, q⟩ := h
  exact call_isED C hz hf pins s σ H xs us Q I r ⟨⟨fs, hd⟩, q⟩
section
variable {P : Program} {w : World} {K : PySem.W.Frag} {mg : Str → Option Value} {base : Heap} {f f5 Ci fI Ak Bq : Addr} {fd fd5 : FuncData}
/-- return e.name == "schema" and isinstance(e, AskError) and not isinstance(e, BadQuestion) -/
def t_suite (K : PySem.W.Frag) (C Ak Bq : Addr) : Addr → Value → Option Addr → TS := fun a cls d => tRet (tAndV (tOp rEq (tXf a cls d C "name" (tVar 1)) (tC (.str "schema")))
  (tAndV (tCB (rIsED K C a cls d) (tCons (tVar 1) (tCons (tC (.ref Ak)) tNil))) (tNotV (tCB (rIsED K C a cls d) (tCons (tVar 1) (tCons (tC (.ref Bq)) tNil))))))
theorem ok_ref (D : DefAt K mg "_law_refused" sRef ["_law_schema_here"] f fd) (D5 : DefAt K mg "check_schema" sChk ["schema"] f5 fd5) (G5 : FnOk P w K mg base (L2.CX P w) 5 f5 fd5 ["schema"] (spChk K Ci)) (B : Blt mg) (T : InvTxt P K mg Ci fI) (R : RefTxt K mg Ci Ak Bq) :
    FnOk P w K mg base CX0 6 f fd ["_law_schema_here"] (spRef K) := by
  refine D.F.ok scRef (fun vs H Q E h => ?_) (fun cdv A outer s H vs Q E hr h => ?_)
  · obtain ⟨v, d, rfl, _⟩ := h
    rfl
  · obtain ⟨v, d, rfl, hd, hp, hn, k⟩ := h
    have hr1 : Room 5 _ := hr.mono (by decide)
    refine ⟨_, pss_cons (ps_try_as (i := 1) (tb := fun W => tDrop (tCallS (spChk K Ci) (WE W) (tCons (tVar 0) tNil))) (ts := t_suite K Ci Ak Bq) (Wout := fun _ _ _ _ => False) rfl rfl scRef.nd rfl rfl ⟨rfl, by decide, Or.inl T.gC⟩ takes0
        (fun W pn xe tk _ => pss_one (ps_expr (by exact (pe_callS G5 hr1 rfl D5.g D5.F.kp D5.b (fun σ => passAt tk σ) (by exact (pa_cons (pv 0) pa_nil))))))
        (fun a oe cls d pn hz hf => pss_one (ps_ret (by exact (pe_and (pe_cmpR op_eq (pe_xf R.xf T.noN hz hf (pv 1)) pe_str (nomark _))
          (pe_and (pe_callB (call_isEV R.ex hz hf) rfl B.isi PyProof.Rows.boot_isinstance (pa_cons (pv 1) (pa_cons (pe_glob rfl R.gA rfl) pa_nil)) (by decide) (by decide))
            (pe_one (pe_not (pe_callB (call_isEV R.ex hz hf) rfl B.isi PyProof.Rows.boot_isinstance (pa_cons (pv 1) (pa_cons (pe_glob rfl R.gB rfl) pa_nil)) (by decide) (by decide))))))))))
      (pss_one (ps_ret pe_bl)), ?_⟩
    refine ⟨v, rfl, v, d, rfl, hd, hp, fun hz => ?_, fun _ dd H' e' hx => ?_⟩
    · rw [hn] at hz
      cases hz
    · refine ⟨true, R.te, fun _ a ha => ?_, fun q => nomatch q⟩
      have e1 : Ev (tOp rEq (tXf a (.ref Ci) (some dd) Ci "name" (tVar 1)) (tC (.str "schema"))) [some v, some (.ref a)] H' (.bl true) := by
        refine ev_eq (x := .str "schema") (y := .str "schema") ?_ ev_c rfl (by decide)
        exact fun H1 e Q q => ⟨.ref a, rfl, rfl, rfl, dd, _, .str "schema", rfl, e _ _ hx, rfl, q H1 (Ex.refl H1)⟩
      have e2 : Ev (tCB (rIsED K Ci a (.ref Ci) (some dd)) (tCons (tVar 1) (tCons (tC (.ref Ak)) tNil))) [some v, some (.ref a)] H' (.bl true) :=
        fun H1 e Q q => ⟨.ref a, rfl, rfl, ⟨dd, _, rfl, e _ _ hx⟩, .ref Ak, .ref Ak, true, rfl, fun u hu => hu, R.yA, q H1 (Ex.refl H1)⟩
      have e3 : Ev (tCB (rIsED K Ci a (.ref Ci) (some dd)) (tCons (tVar 1) (tCons (tC (.ref Bq)) tNil))) [some v, some (.ref a)] H' (.bl false) :=
        fun H1 e Q q => ⟨.ref a, rfl, rfl, ⟨dd, _, rfl, e _ _ hx⟩, .ref Bq, .ref Bq, false, rfl, fun u hu => hu, R.nB, q H1 (Ex.refl H1)⟩
      exact (ev_andV (a := true) (b := true) e1 fun _ => ev_andV (a := true) (b := true) e2 fun _ => ev_notV (a := false) e3) H' (Ex.refl H') _ fun H2 e2 => k H2 (e'.trans e2)
end
end K43
/-! The plain law: what the schemas, the changed schemas, the rows and the changed rows answer. -/
namespace K43
open PySem L2 Evl
/-! ### the wide schema -/
def wideCols : Cols := [("a", "text"), ("b", "text"), ("c", "text"), ("d", "text"), ("e", "text")]
def wideS : Sch := [("a", wideCols), ("b", wideCols), ("c", wideCols), ("d", wideCols)]
def wideRow : PyData := .tuple [.str "", .str "a", .str "b", .str "", .str ""]
theorem wide_pre : schPre (schD wideS) = true := by decide +kernel
theorem wide_ok : schF (schD wideS) = true := by decide +kernel
theorem wideRow_pre : rowPre wideRow = true := by decide +kernel
theorem wideRow_ok : rowF wideCols wideRow = true := by decide +kernel
/-! ### the two schemas and their changes -/
theorem sch1_pre : schPre (schD sch1) = true := by decide +kernel
theorem sch1_ok : schF (schD sch1) = true := by decide +kernel
theorem sch2_pre : schPre (schD sch2) = true := by decide +kernel
theorem sch2_ok : schF (schD sch2) = true := by decide +kernel
theorem schOf_or (n : Int) : schOf n = sch1 ∨ schOf n = sch2 := by
  unfold schOf
  split
  · exact .inr rfl
  · exact .inl rfl
theorem schOf_pre (n : Int) : schPre (schD (schOf n)) = true := by
  rcases schOf_or n with e | e <;> rw [e]
  · exact sch1_pre
  · exact sch2_pre
theorem schOf_ok (n : Int) : schF (schD (schOf n)) = true := by
  rcases schOf_or n with e | e <;> rw [e]
  · exact sch1_ok
  · exact sch2_ok
theorem schOf_headed (n : Int) : Headed (schOf n) := by
  rcases schOf_or n with e | e <;> rw [e]
  · exact ⟨_, _, _, _, rfl, by decide⟩
  · exact ⟨_, _, _, _, rfl, by decide⟩
theorem bad1 : (List.range 24).all (fun i => schPre ((badsOf "a" ("n", "number") [("t", "text")] sch1.tail).getD i .none) && !schF ((badsOf "a" ("n", "number") [("t", "text")] sch1.tail).getD i .none)) = true := by decide +kernel
theorem bad2 : (List.range 24).all (fun i => schPre ((badsOf "a" ("t", "text") [("n", "number"), ("m", "number")] sch2.tail).getD i .none) && !schF ((badsOf "a" ("t", "text") [("n", "number"), ("m", "number")] sch2.tail).getD i .none)) = true := by decide +kernel
theorem not_true {b : Bool} (h : (!b) = true) : b = false := by
  cases b with
  | false => rfl
  | true => cases h
theorem bad_ok (n m : Int) : schPre (badD (schOf n) m) = true ∧ schF (badD (schOf n) m) = false := by
  have h1 : (m % 24).toNat ∈ List.range 24 := List.mem_range.mpr (by omega)
  rcases schOf_or n with e | e <;> rw [e]
  · have q := List.all_eq_true.mp bad1 _ h1
    obtain ⟨q1, q2⟩ := Bool.and_eq_true_iff.mp q
    exact ⟨q1, not_true q2⟩
  · have q := List.all_eq_true.mp bad2 _ h1
    obtain ⟨q1, q2⟩ := Bool.and_eq_true_iff.mp q
    exact ⟨q1, not_true q2⟩
/-! ### rows -/
theorem getD_mem {xs : List PyData} {i : Nat} (h : i < xs.length) : xs.getD i .none ∈ xs := by
  rw [List.getD_eq_getElem?_getD, List.getElem?_eq_getElem h]
  exact List.getElem_mem h
theorem nums_kind : ∀ d ∈ numsL, kindV d = .str "number" := by decide +kernel
theorem txts_kind : ∀ d ∈ txtsL, kindV d = .str "text" := by decide +kernel
theorem text_number : ("text" : Str) ≠ "number" := by decide +kernel
theorem kind_val {kd : Str} (n : Int) (h : kd = "number" ∨ kd = "text") : kindV (valD kd n) = .str kd := by
  unfold valD
  rcases h with rfl | rfl
  · rw [if_pos rfl]
    exact nums_kind _ (getD_mem (by show (n % 5).toNat < 5; omega))
  · rw [if_neg text_number]
    exact txts_kind _ (getD_mem (by show (n % 6).toNat < 6; omega))
theorem nums_short : numsL.all shortD = true := by decide +kernel
theorem txts_short : txtsL.all shortD = true := by decide +kernel
theorem val_short (kd : Str) (n : Int) : shortD (valD kd n) = true := by
  unfold valD
  split
  · exact all_getD nums_short rfl _
  · exact all_getD txts_short rfl _
structure TabOk (s : Sch) (t : Str × Cols) : Prop where
  l1 : 1 ≤ t.2.length
  l7 : t.2.length ≤ 7
  kinds : ∀ c ∈ t.2, c.2 = "number" ∨ c.2 = "text"
  own : colsOf s t.1 = colsD t.2
  zz : colsOf s "zz" = .none
  pl : ∀ i : Fin t.2.length, placeV t.2 t.2[i].1 0 = .int (i : Nat)
  pz : placeV t.2 "zz" 0 = .non
  ok : okD 5 (colsD t.2) = true
theorem tabs1 : ∀ t ∈ sch1, TabOk sch1 t := by
  intro t ht
  simp only [sch1, List.mem_cons, List.not_mem_nil, or_false] at ht
  rcases ht with rfl | rfl | rfl
  all_goals exact ⟨by decide, by decide, by decide +kernel, by first | rfl | decide +kernel, by first | rfl | decide +kernel, by decide +kernel, by decide +kernel, by decide +kernel⟩
theorem tabs2 : ∀ t ∈ sch2, TabOk sch2 t := by
  intro t ht
  simp only [sch2, List.mem_cons, List.not_mem_nil, or_false] at ht
  rcases ht with rfl | rfl
  all_goals exact ⟨by decide, by decide, by decide +kernel, by first | rfl | decide +kernel, by first | rfl | decide +kernel, by decide +kernel, by decide +kernel, by decide +kernel⟩
theorem tabs_ok (n : Int) : ∀ t ∈ schOf n, TabOk (schOf n) t := by
  rcases schOf_or n with e | e <;> rw [e]
  · exact tabs1
  · exact tabs2
theorem row_length (cs : Cols) (ns : List Int) : (mkRow cs ns).length = cs.length := by
  unfold mkRow
  rw [List.length_map, List.length_range]
theorem row_at {cs : Cols} {ns : List Int} {i : Nat} (h : i < cs.length) : (mkRow cs ns).getD i .none = cellD cs ns i := by
  unfold mkRow
  rw [List.getD_eq_getElem?_getD, List.getElem?_map, List.getElem?_range h]
  rfl
theorem row_ok {cs : Cols} (hk : ∀ c ∈ cs, c.2 = "number" ∨ c.2 = "text") (ns : List Int) : rowF cs (.tuple (mkRow cs ns)) = true := by
  show (decide ((mkRow cs ns).length = cs.length) && (List.range cs.length).all (cellF cs (mkRow cs ns))) = true
  rw [decide_eq_true (row_length cs ns), Bool.true_and]
  refine List.all_eq_true.mpr fun i hi => ?_
  have hi' := List.mem_range.mp hi
  unfold cellF
  rw [row_at hi']
  unfold cellD
  refine decide_eq_true (kind_val _ ?_)
  rw [List.getD_eq_getElem?_getD, List.getElem?_eq_getElem hi']
  exact hk _ (List.getElem_mem hi')
theorem row_len {cs : Cols} {rs : List PyData} (h : rs.length ≠ cs.length) : rowF cs (.tuple rs) = false := by
  show (decide (rs.length = cs.length) && _) = false
  rw [decide_eq_false h]
  rfl
theorem row_wrong {cs : Cols} {rs : List PyData} {i : Nat} {x : PyData} (hi : i < cs.length) (hr : rs.length = cs.length) (hx : kindV x ≠ .str cs[i].2) : rowF cs (.tuple (rs.take i ++ [x] ++ rs.drop (i + 1))) = false := by
  show (_ && (List.range cs.length).all (cellF cs (rs.take i ++ [x] ++ rs.drop (i + 1)))) = false
  have hf : (List.range cs.length).all (cellF cs (rs.take i ++ [x] ++ rs.drop (i + 1))) = false := by
    cases e : (List.range cs.length).all (cellF cs (rs.take i ++ [x] ++ rs.drop (i + 1))) with
    | false => rfl
    | true =>
      have q := List.all_eq_true.mp e i (List.mem_range.mpr hi)
      unfold cellF at q
      have hl : (rs.take i).length = i := by
        rw [List.length_take]
        omega
      have g : (rs.take i ++ [x] ++ rs.drop (i + 1)).getD i .none = x := by
        rw [List.getD_eq_getElem?_getD, List.append_assoc, List.getElem?_append_right (by omega), hl]
        simp
      rw [g, List.getD_eq_getElem?_getD, List.getElem?_eq_getElem hi] at q
      exact absurd (of_decide_eq_true q) hx
  rw [hf]
  exact Bool.and_false _
def oddD (kd : Str) : PyData := if kd = "number" then .str "seven" else .int 7
theorem kind_seven : kindV (.str "seven") = .str "text" := by decide +kernel
theorem kind_7 : kindV (.int 7) = .str "number" := by decide +kernel
theorem odd_kind (kd : Str) : kindV (oddD kd) ≠ .str kd := by
  unfold oddD
  split
  · rename_i e
    rw [e, kind_seven]
    exact fun z => text_number (V.str.inj z)
  · rename_i e
    rw [kind_7]
    exact fun z => e (V.str.inj z).symm
theorem odd_short (kd : Str) : shortD (oddD kd) = true := by
  unfold oddD
  split
  · decide +kernel
  · rfl
theorem none_kind (kd : Str) : kindV .none ≠ .str kd := by
  have e : kindV .none = .non := by decide +kernel
  rw [e]
  exact fun z => V.noConfusion z
theorem row_short (cs : Cols) (ns : List Int) : ∀ d ∈ mkRow cs ns, shortD d = true := fun d hd => by
  unfold mkRow at hd
  obtain ⟨i, _, rfl⟩ := List.mem_map.mp hd
  exact val_short _ _
theorem pre_row (cs : Cols) (ns : List Int) : rowPre (.tuple (mkRow cs ns)) = true := List.all_eq_true.mpr (row_short cs ns)
theorem pre_swap {rs : List PyData} (h : ∀ d ∈ rs, shortD d = true) {x : PyData} (hx : shortD x = true) (i : Nat) : rowPre (.tuple (rs.take i ++ [x] ++ rs.drop (i + 1))) = true := List.all_eq_true.mpr fun d hd => by
  rcases List.mem_append.mp hd with hd | hd
  · rcases List.mem_append.mp hd with hd | hd
    · exact h d (List.mem_of_mem_take hd)
    · rw [List.mem_singleton.mp hd]
      exact hx
  · exact h d (List.mem_of_mem_drop hd)
theorem cut_lo {ds : List PyData} {i : Nat} (h : i ≤ ds.length) : cutD ds none (some ((i : Nat) : Int)) = ds.take i := by
  unfold cutD
  rw [HT.sIx_none, HT.sIx_nat, List.drop_zero, Nat.sub_zero, Nat.min_eq_left h]
theorem cut_hi {ds : List PyData} {i : Nat} (h : i ≤ ds.length) : cutD ds (some ((i : Nat) : Int)) none = ds.drop i := by
  unfold cutD
  rw [HT.sIx_none, HT.sIx_nat, Nat.min_eq_left h]
  exact List.take_of_length_le (by rw [List.length_drop]; exact Nat.le_refl _)
end K43
/-! What the law's own lines need beside: a comprehension that makes tuples, the calls by data. -/
namespace K43
open PySem L2 Evl
/-! ### data without lists stand when a list changes -/
mutual
def noL : PyData → Bool
  | .list _ => false
  | .tuple ds => noLs ds
  | .dict _ => false
  | _ => true
def noLs : List PyData → Bool
  | [] => true
  | d :: ds => noL d && noLs ds
end
section
variable {K : PySem.W.Frag} {σ : L2.St} {H H' : Hp} {ta tb tc te tl : TE} {d e : PyData} {E : XK} {C : Addr}
theorem sqt_upd {Dl a : Addr} {acc : List V} {o : HO} {xs : List V} (hD : H Dl = some (.lst acc)) (h : SqT K H a xs) : SqT K (upd H Dl o) a xs := by
  rcases h with (h | ⟨ob, h⟩) | h
  · refine .inl (.inl ?_)
    rw [upd_ne (fun z => by rw [z, hD] at h; cases h)]
    exact h
  · refine .inl (.inr ⟨ob, ?_⟩)
    rw [upd_ne (fun z => by rw [z, hD] at h; cases h)]
    exact h
  · exact .inr h
mutual
theorem dp_nl {Dl : Addr} {acc : List V} {o : HO} (hD : H Dl = some (.lst acc)) : ∀ {v : V} {d : PyData}, Dp K H v d → noL d = true → Dp K (upd H Dl o) v d
  | _, _, .non, _ => .non
  | _, _, .bl b, _ => .bl b
  | _, _, .int i, _ => .int i
  | _, _, .str x, _ => .str x
  | _, _, .lst _ _, z => nomatch z
  | _, _, .tup h a, z => .tup (sqt_upd hD h) (dpa_nl hD a (by unfold noL at z; exact z))
theorem dpa_nl {Dl : Addr} {acc : List V} {o : HO} (hD : H Dl = some (.lst acc)) : ∀ {vs : List V} {ds : List PyData}, DpAll K H vs ds → noLs ds = true → DpAll K (upd H Dl o) vs ds
  | _, _, .nil, _ => .nil
  | _, _, .cons h a, z => .cons (dp_nl hD h (Bool.and_eq_true_iff.mp (by unfold noLs at z; exact z)).1) (dpa_nl hD a (Bool.and_eq_true_iff.mp (by unfold noLs at z; exact z)).2)
end
/-- the list at Dl while a comprehension runs: data g c of the first i signs -/
def Cd (K : PySem.W.Frag) (H : Hp) (cs : List Nat) (g : Nat → PyData) (Dl : Addr) (i : Nat) (H' : Hp) : Prop := H Dl = none ∧ Ex H H' ∧ ∃ acc, H' Dl = some (.lst acc) ∧ DpAll K H' acc ((cs.take i).map g)
theorem noLs_map {g : Nat → PyData} (hg : ∀ c, noL (g c) = true) : ∀ cs : List Nat, noLs (cs.map g) = true
  | [] => by unfold List.map noLs; rfl
  | c :: cs => by
    show noLs (g c :: cs.map g) = true
    unfold noLs
    rw [hg c, noLs_map hg cs] <;> rfl
theorem ed_lcS {j : Nat} {vs : List Nat} {z : Str} (g : Nat → PyData) (hg : ∀ c, noL (g c) = true) (h : Ev tl σ H (.str z)) (hz : z.length ≤ 40000) (hw : ∀ x, wipe ((wipe σ vs).set j (some x)) vs = wipe σ vs)
    (he : ∀ (c : Nat) H1, Ex H H1 → EvD K te ((wipe σ vs).set j (some (.str ⟨#[c]⟩))) H1 (g c)) : EvD K (tLc (iStr tl) (gName j) tYes te vs) σ H (.list (z.cps.toList.map g)) := fun H0 e Q q =>
  h H0 e _ fun H1 e1 => ⟨z, rfl, fun Dl hD => by
    refine lc_it walk_str (Cd K H1 z.cps.toList g Dl) ⟨hD, Ex.new hD, [], upd_same, .nil⟩ (fun i H' _ p => trivial) (fun i x H' H2 hi p hy => ?_) (fun H' p => ?_)
    · obtain ⟨rfl, c, hc, rfl⟩ := hy
      obtain ⟨p1, p2, acc, p3, p4⟩ := p
      have hz' : z.cps.size ≤ 40000 := hz
      have hc' : z.cps.toList[i]? = some c := by simpa using hc
      refine ⟨hw _, ?_⟩
      show te _ _ _
      refine he c H1 (e.trans e1) _ p2 _ fun y H4 e4 hy => ⟨acc, e4 _ _ p3, sz_lt ?_, p1, Ex.mut (p2.trans e4) p1, acc ++ [y], upd_same, ?_⟩
      · rw [dpa_len p4, List.length_map, List.length_take]
        omega
      · have et : (z.cps.toList.take (i + 1)).map g = (z.cps.toList.take i).map g ++ [g c] := by
          rw [List.take_succ, hc', List.map_append]
          rfl
        rw [et]
        exact dpa_app (dpa_nl (e4 _ _ p3) (dpa_ex e4 p4) (noLs_map hg _)) (.cons (dp_nl (e4 _ _ p3) hy (hg c)) .nil)
    · obtain ⟨p1, p2, acc, p3, p4⟩ := p
      refine q _ H' (e1.trans p2) (.lst (sq_of p3) ?_)
      have el : z.cps.toList.take z.cps.size = z.cps.toList := by
        refine List.take_of_length_le ?_
        simp
      rw [el] at p4
      exact p4⟩
/-- a block within a block: what it captures is nothing -/
theorem blk_any {N : List Str} {sc sc' scope : Scope} {own : List (Str × Nat)} (h : BlkOk N sc scope own) (hf : ∀ y ∈ scope.names, y.2 ≠ .free) : BlkOk N sc' scope own :=
  ⟨h.kind, h.uniq, h.ix, fun y hy e => absurd e (hf y hy), h.own⟩
/-! ### calls -/
theorem ev_name {b : Bool} (h : EvD K ta σ H d) (hp : shortD d = true) (hb : nameF d = b) : Ev (tCall (spName K) [] E (tCons ta tNil)) σ H (.bl b) := ev_is (ev_call1 (f := fun d => .bl (nameF d)) h hp) (by rw [hb])
theorem ev_unl {b : Bool} (h : EvD K ta σ H d) (hp : Names d) (hb : unlikeF d = b) : Ev (tCall (spUnl K) [] E (tCons ta tNil)) σ H (.bl b) := ev_is (ev_call1 (f := fun d => .bl (unlikeF d)) h hp) (by rw [hb])
theorem ev_chk (h : EvD K ta σ H d) (hp : schPre d = true) (hf : schF d = true) : Ev (tCall (spChk K C) [] E (tCons ta tNil)) σ H .non := fun H1 e Q q => h H1 e _ fun v H2 e2 hv =>
  ⟨v, d, rfl, hv, hp, fun _ H' e' => q H' (e2.trans e'), fun hz => absurd (hf.symm.trans hz) (by decide)⟩
theorem ev_ref (h : EvD K ta σ H d) (hp : schPre d = true) (hf : schF d = false) : Ev (tCall (spRef K) [] E (tCons ta tNil)) σ H (.bl true) := fun H1 e Q q => h H1 e _ fun v H2 e2 hv =>
  ⟨v, d, rfl, hv, hp, hf, fun H' e' => q H' (e2.trans e')⟩
theorem ed_sch {n : Int} (h : Ev ta σ H (.int n)) : EvD K (tCall (spSch K) [] E (tCons ta tNil)) σ H (schD (schOf n)) := fun H1 e Q q => h H1 e _ fun H2 e2 =>
  ⟨n, rfl, fun u H' e' hu => q u H' (e2.trans e') hu⟩
theorem ed_bad {s : Sch} {n : Int} (h : EvD K ta σ H (schD s)) (h2 : Ev tb σ H (.int n)) (hh : Headed s) : EvD K (tCall (spBad K) [] E (tCons ta (tCons tb tNil))) σ H (badD s n) := fun H1 e Q q => h H1 e _ fun v H2 e2 hv => h2 H2 (e.trans e2) _ fun H3 e3 =>
  ⟨v, s, n, rfl, dp_ex e3 hv, hh, fun u H' e' hu => q u H' ((e2.trans e3).trans e') hu⟩
def Eight (v : V) (H : Hp) : Prop := ∃ (ns : List Int) (p : Addr), v = .ref p ∧ ns.length = 8 ∧ H p = some (.lst (ns.map V.int))
theorem ep_drw {n : Int} (h : Ev ta σ H (.int n)) (h2 : Ev tb σ H (.int 8)) : EvP (tCall spDrw [] E (tCons ta (tCons tb tNil))) σ H Eight := fun H1 e Q q => h H1 e _ fun H2 e2 => h2 H2 (e.trans e2) _ fun H3 e3 =>
  ⟨n, rfl, fun ns p H' hl e' hp => q _ H' ((e2.trans e3).trans e') ⟨ns, p, rfl, hl, hp⟩⟩
theorem ed_lrow {cs : Cols} {ns : List Int} (h : EvD K ta σ H (colsD cs)) (h2 : EvD K tb σ H (.list (ns.map .int))) (h3 : Ev tc σ H (.int 1)) (hl : cs.length + 1 ≤ ns.length) (hl2 : cs.length ≤ 1000) :
    EvD K (tCall (spLRow K) [] E (tCons ta (tCons tb (tCons tc tNil)))) σ H (.tuple (mkRow cs ns)) := fun H1 e Q q => h H1 e _ fun v H2 e2 hv => h2 H2 (e.trans e2) _ fun u H3 e3 hu => h3 H3 ((e.trans e2).trans e3) _ fun H4 e4 =>
  ⟨v, u, cs, ns, rfl, dp_ex (e3.trans e4) hv, dp_ex e4 hu, hl, hl2, fun y H' e' hy => q y H' (((e2.trans e3).trans e4).trans e') hy⟩
theorem ed_cof {s : Sch} {z : Str} (h : EvD K ta σ H (schD s)) (h2 : Ev tb σ H (.str z)) (hd : colsOf s z = d) : EvD K (tCall (spCof K) [] E (tCons ta (tCons tb tNil))) σ H d := fun H1 e Q q => h H1 e _ fun v H2 e2 hv => h2 H2 (e.trans e2) _ fun H3 e3 =>
  ⟨v, s, z, rfl, dp_ex e3 hv, fun u H' e' hu => q u H' ((e2.trans e3).trans e') (by rw [← hd]; exact hu)⟩
theorem ev_pla {cs : Cols} {z : Str} {v : V} (h : EvD K ta σ H (colsD cs)) (h2 : Ev tb σ H (.str z)) (hv : placeV cs z 0 = v) : Ev (tCall (spPla K) [] E (tCons ta (tCons tb tNil))) σ H v := fun H1 e Q q => h H1 e _ fun v H2 e2 hv' => h2 H2 (e.trans e2) _ fun H3 e3 =>
  ⟨v, cs, z, rfl, dp_ex e3 hv', fun H' e' => by rw [hv]; exact q H' ((e2.trans e3).trans e')⟩
theorem ev_rowB {cs : Cols} {b : Bool} (h : EvD K ta σ H (colsD cs)) (h2 : EvD K tb σ H d) (hl : cs.length ≤ 1000) (hp : rowPre d = true) (hb : rowF cs d = b) : Ev (tCall (spRow K) [] E (tCons ta (tCons tb tNil))) σ H (.bl b) := ev_is (ev_callRow h h2 hl hp) (by rw [hb])
theorem ev_sam {n : Nat} (h : EvD K ta σ H d) (h2 : EvD K tb σ H d) (ok : okD n d = true) : Ev (tCall (spSam K n) [] E (tCons ta (tCons tb tNil))) σ H (.bl true) := fun H1 e Q q => h H1 e _ fun v H2 e2 hv => h2 H2 (e.trans e2) _ fun u H3 e3 hu =>
  ⟨v, u, d, rfl, dp_ex e3 hv, hu, ok, fun H' e' => q H' ((e2.trans e3).trans e')⟩
theorem ev_notNv {x : V} {b : Bool} (h : Ev ta σ H x) (e : (!decide (x = .non)) = b) : Ev (tOp rNotN ta (tC .non)) σ H (.bl b) := by
  rw [← e]
  exact ev_op h ev_c fun H1 e1 Q q => ⟨rfl, q H1 (Ex.refl H1)⟩
theorem ev_notBv {x : V} {c b : Bool} (h : Ev ta σ H x) (ok : isOk x = true) (e : (!decide (x = .bl c)) = b) : Ev (tOp rNotBx ta (tC (.bl c))) σ H (.bl b) := by
  rw [← e]
  exact ev_op h ev_c fun H1 e1 Q q => ⟨c, rfl, ok, q H1 (Ex.refl H1)⟩
theorem ed_is {d' : PyData} (h : EvD K te σ H d) (e : d = d') : EvD K te σ H d' := by
  rw [← e]
  exact h
theorem q_asgP {D : Ends} {tz : TS} {i : Nat} {P : V → Hp → Prop} (h : EvP te σ H P) (k : ∀ v H1, Ex H H1 → P v H1 → tz D (σ.set i (some v)) H1) : tSeq (tAsg te (gName i)) tz D σ H :=
  h H (Ex.refl H) _ fun v H1 e hv => k v H1 e hv
theorem ed_bools {p : Addr} {bs : List Bool} {i : Nat} (h : σ[i]? = some (some (.ref p))) (hp : H p = some (.lst (bs.map V.bl))) : EvD K (tVar i) σ H (.list (bs.map .bool)) := ed_var h (.lst (sq_of hp) (dpa_of_bls bs))
theorem ed_intL {p : Addr} {ns : List Int} {i : Nat} (h : σ[i]? = some (some (.ref p))) (hp : H p = some (.lst (ns.map V.int))) : EvD K (tVar i) σ H (.list (ns.map .int)) := ed_var h (.lst (sq_of hp) (dpa_of_ints ns))
end
end K43
/-! The law itself: walked, and True. -/
namespace K43
open PySem L2 Evl
abbrev sLaw : Stmt := topS 35
abbrev nLaw : List Str := ["_law_script", "_law_told", "_law_wide", "_law_k", "_law_cell", "_law_schema_here", "_law_draws_here", "_law_table_here", "_law_columns", "_law_row_here", "_law_at", "_law_wrong", "_law_found", "_law_name", "_law_other"]
theorem scLaw : FnScope nLaw ["_law_script"] (defScope sLaw) := ⟨rfl, rfl, rfl, by decide +kernel, rfl, by decide +kernel, by decide +kernel⟩
def spLaw (K : PySem.W.Frag) : Sp := fun vs H Q _ => ∃ (a : Addr) (ns : List Int), vs = [.ref a] ∧ SqL K H a (ns.map V.int) ∧ ns.length ≤ 63 ∧ ∀ H', Q (.bl true) H'
/-- the script in its slot, the rest whatever they are -/
def Slots (a : Addr) (σ : L2.St) : Prop := ∃ o1 o2 o3 o4 o5 o6 o7 o8 o9 o10 o11 o12 o13 o14, σ = [some (.ref a), o1, o2, o3, o4, o5, o6, o7, o8, o9, o10, o11, o12, o13, o14]
/-- .. the schema and the draws too -/
def Slots6 (a : Addr) (x y : V) (σ : L2.St) : Prop := ∃ o1 o2 o3 o4 o7 o8 o9 o10 o11 o12 o13 o14, σ = [some (.ref a), o1, o2, o3, o4, some x, some y, o7, o8, o9, o10, o11, o12, o13, o14]
def gC (c : Nat) : PyData := .tuple [.str ⟨#[c]⟩, .str "text"]
def gW (c : Nat) : PyData := .tuple [.str ⟨#[c]⟩, .tuple (("abcde" : Str).cps.toList.map gC)]
theorem gC_no (c : Nat) : noL (gC c) = true := rfl
theorem gW_no (c : Nat) : noL (gW c) = true := by
  show noLs [.str ⟨#[c]⟩, .tuple (("abcde" : Str).cps.toList.map gC)] = true
  unfold noLs noLs noLs
  have e : noL (.tuple (("abcde" : Str).cps.toList.map gC)) = true := by
    unfold noL
    exact noLs_map gC_no _
  rw [e]
  rfl
theorem wide_is : (PyData.tuple (("abcd" : Str).cps.toList.map gW)) = schD wideS := by kernel_rfl
def B10 : List Bool := [true, true, false, false, false, false, false, true, false, true]
def B6 : List Bool := [true, false, false, false, false, false]
/-- row[:at] + m + row[at + 1:] -/
theorem ed_swap {K : PySem.W.Frag} {σ : L2.St} {H : Hp} {t9 t10 tm : TE} {rs : List PyData} {x : PyData} {j : Nat} (h9 : EvD K t9 σ H (.tuple rs)) (h10 : Ev t10 σ H (.int (j : Nat))) (hm : EvD K tm σ H (.tuple [x])) (hj : j < rs.length) (hl : rs.length ≤ 1000) :
    EvD K (tOp (rCatA K) (tOp (rCatA K) (tSl (rSlA K) t9 tNoPart (tPart t10)) tm) (tSl (rSlA K) t9 (tPart (tOp (rI0 fun i j => .int (i + j)) t10 (tC (.int 1)))) tNoPart)) σ H (.tuple (rs.take j ++ [x] ++ rs.drop (j + 1))) := by
  have e : ((j : Nat) : Int) + 1 = ((j + 1 : Nat) : Int) := by omega
  refine ed_catT (ed_catT (ed_is (ed_slT h9 eo_none (eo_some h10)) (by rw [cut_lo (by omega)])) hm ?_) (ed_is (ed_slT h9 (eo_some (ev_op h10 (ev_c (v := .int 1)) (rv_I0 (g := fun i j => .int (i + j))))) eo_none) (by rw [e, cut_hi (by omega)])) ?_
  · rw [List.length_take]
    show min j rs.length + 1 ≤ 100000
    omega
  · rw [List.length_append, List.length_take, List.length_drop]
    show min j rs.length + 1 + (rs.length - (j + 1)) ≤ 100000
    omega
theorem odd_at (kd : Str) : atI [PyData.int 7, .str "seven"] (if decide (kd = "number") = true then 1 else 0) = some (oddD kd) := by
  unfold oddD
  by_cases h : kd = "number"
  · rw [decide_eq_true h, if_pos rfl, if_pos h]
    exact at_nat (j := 1) rfl
  · rw [decide_eq_false h, if_neg (by decide), if_neg h]
    exact at_zero
section
variable {P : Program} {w : World} {K : PySem.W.Frag} {mg : Str → Option Value} {base : Heap} {f fn fu fs fc fr ff fb fh fD fl fo fp Ci : Addr} {fd fdn fdu fds fdc fdr fdf fdb fdh fdd fdl fdo fdp : FuncData}
theorem ok_law (F : Fun K "law" "law" sLaw f fd)
    (Dn : DefAt K mg "is_name" sName ["value"] fn fdn) (Gn : FnOk P w K mg base CX0 1 fn fdn ["value"] (spName K))
    (Du : DefAt K mg "are_unlike" sUnl ["names"] fu fdu) (Gu : FnOk P w K mg base CX0 1 fu fdu ["names"] (spUnl K))
    (Ds : DefAt K mg "_law_same" sSam ["_law_told", "_law_due"] fs fds) (Gs : FnOk P w K mg base CX0 6 fs fds ["_law_told", "_law_due"] (spSam K 6))
    (Dc : DefAt K mg "check_schema" sChk ["schema"] fc fdc) (Gc : FnOk P w K mg base (L2.CX P w) 5 fc fdc ["schema"] (spChk K Ci))
    (Dr : DefAt K mg "is_row" sRow ["columns", "row"] fr fdr) (Gr : FnOk P w K mg base CX0 3 fr fdr ["columns", "row"] (spRow K))
    (Df : DefAt K mg "_law_refused" sRef ["_law_schema_here"] ff fdf) (Gf : FnOk P w K mg base CX0 6 ff fdf ["_law_schema_here"] (spRef K))
    (Db : DefAt K mg "_law_bad" sBad ["_law_schema_here", "_law_n"] fb fdb) (Gb : FnOk P w K mg base CX0 1 fb fdb ["_law_schema_here", "_law_n"] (spBad K))
    (Dh : DefAt K mg "_law_schema" sSch ["_law_n"] fh fdh) (Gh : FnOk P w K mg base CX0 1 fh fdh ["_law_n"] (spSch K))
    (Dd : DefAt K mg "_law_draws" sDrw ["_law_cell", "_law_many"] fD fdd) (Gd : FnOk P w K mg base CX0 1 fD fdd ["_law_cell", "_law_many"] spDrw)
    (Dl : DefAt K mg "_law_row" sLRow ["_law_fields", "_law_draws_here", "_law_start"] fl fdl) (Gl : FnOk P w K mg base CX0 2 fl fdl ["_law_fields", "_law_draws_here", "_law_start"] (spLRow K))
    (Do : DefAt K mg "columns_of" sCof ["schema", "name"] fo fdo) (Go : FnOk P w K mg base CX0 1 fo fdo ["schema", "name"] (spCof K))
    (Dp_ : DefAt K mg "place_of" sPla ["columns", "name"] fp fdp) (Gp : FnOk P w K mg base CX0 1 fp fdp ["columns", "name"] (spPla K))
    (B : Blt mg) : FnOk P w K mg base CX0 7 f fd ["_law_script"] (spLaw K) := by
  refine F.ok scLaw (fun vs H Q E h => ?_) (fun cdv A outer s H vs Q E h6 h => ?_)
  · obtain ⟨a, ns, rfl, _⟩ := h
    rfl
  · obtain ⟨a, ns, rfl, hS, hlen, k⟩ := h
    have h5 : Room 5 _ := h6.mono (by decide)
    have h3 : Room 3 _ := h6.mono (by decide)
    have h2 : Room 2 _ := h6.mono (by decide)
    have h1 : Room 1 _ := h6.mono (by decide)
    refine ⟨_, (pss_cons (ps_set (i := 1) scLaw.nd rfl (Or.inl rfl) (pe_lst (pa_cons (pe_call Gn h1 rfl Dn.g Dn.F.kp Dn.b .nil pass0 (pa_cons pe_str pa_nil)) (pa_cons (pe_call Gn h1 rfl Dn.g Dn.F.kp Dn.b .nil pass0 (pa_cons pe_str pa_nil)) (pa_cons (pe_call Gn h1 rfl Dn.g Dn.F.kp Dn.b .nil pass0 (pa_cons pe_str pa_nil)) (pa_cons (pe_call Gn h1 rfl Dn.g Dn.F.kp Dn.b .nil pass0 (pa_cons pe_str pa_nil)) (pa_cons (pe_call Gn h1 rfl Dn.g Dn.F.kp Dn.b .nil pass0 (pa_cons pe_str pa_nil)) (pa_cons (pe_call Gn h1 rfl Dn.g Dn.F.kp Dn.b .nil pass0 (pa_cons pe_int pa_nil)) (pa_cons (pe_call Gn h1 rfl Dn.g Dn.F.kp Dn.b .nil pass0 (pa_cons pe_str pa_nil)) pa_nil)))))))))
      (pss_cons (ps_set (i := 1) scLaw.nd rfl (Or.inl rfl) (pe_op op_cat (pv 1) (pe_lst (pa_cons (pe_call Gu h1 rfl Du.g Du.F.kp Du.b .nil pass0 (pa_cons (pe_lst (pa_cons pe_str (pa_cons pe_str pa_nil))) pa_nil)) (pa_cons (pe_call Gu h1 rfl Du.g Du.F.kp Du.b .nil pass0 (pa_cons (pe_tup (pa_cons pe_str (pa_cons pe_str (pa_cons pe_str pa_nil)))) pa_nil)) (pa_cons (pe_call Gu h1 rfl Du.g Du.F.kp Du.b .nil pass0 (pa_cons (pe_lst pa_nil) pa_nil)) pa_nil))))))
      (pss_cons (ps_if (pt_not (pt_val (pe_call Gs h6 rfl Ds.g Ds.F.kp Ds.b .nil pass0 (pa_cons (pv 1) (pa_cons (pe_lst (pa_cons pe_bl (pa_cons pe_bl (pa_cons pe_bl (pa_cons pe_bl (pa_cons pe_bl (pa_cons pe_bl (pa_cons pe_bl (pa_cons pe_bl (pa_cons pe_bl (pa_cons pe_bl pa_nil))))))))))) pa_nil))))) (pss_one (ps_ret pe_bl)) pss_nil)
      (pss_cons (ps_set (i := 2) scLaw.nd rfl (Or.inl rfl) (pe_callTy (r := rTupOf K) cr_tupOf rfl B.tuple PyProof.Rows.boot_tuple (pa_cons (pe_lc (own := [("_law_name", 13)]) (g := gName 13) (tt := tYes) rfl scLaw.nd (pi_str pe_str) (blkOk_by (N := ["_law_script", "_law_told", "_law_wide", "_law_k", "_law_cell", "_law_schema_here", "_law_draws_here", "_law_table_here", "_law_columns", "_law_row_here", "_law_at", "_law_wrong", "_law_found", "_law_name", "_law_other"]) (sc := defScope sLaw) (by decide +kernel)) (fun _ _ _ _ _ => pg_name (i := 13) scLaw.nd rfl (Or.inl rfl)) (fun _ _ _ _ _ => pts_nil) (fun _ _ _ _ _ => (pe_tup (pa_cons (pv 13) (pa_cons (pe_callTy (r := rTupOf K) cr_tupOf rfl B.tuple PyProof.Rows.boot_tuple (pa_cons (pe_lc (own := [("_law_other", 14)]) (g := gName 14) (tt := tYes) rfl scLaw.nd (pi_str pe_str) (blk_any (blkOk_by (N := ["_law_script", "_law_told", "_law_wide", "_law_k", "_law_cell", "_law_schema_here", "_law_draws_here", "_law_table_here", "_law_columns", "_law_row_here", "_law_at", "_law_wrong", "_law_found", "_law_name", "_law_other"]) (sc := defScope sLaw) (by decide +kernel)) (by decide +kernel)) (fun _ _ _ _ _ => pg_name (i := 14) scLaw.nd rfl (Or.inl rfl)) (fun _ _ _ _ _ => pts_nil) (fun _ _ _ _ _ => (pe_tup (pa_cons (pv 14) (pa_cons pe_str pa_nil))))) pa_nil)) pa_nil))))) pa_nil)))
      (pss_cons (ps_if (PW.pt (pw_or (pt_cmpR op_notN1 (pe_call Gc h5 rfl Dc.g Dc.F.kp Dc.b .nil passL (pa_cons (pv 2) pa_nil)) pe_non (nomark _)) (pw_or1 (pt_cmpR op_notBx (pe_call Gr h3 rfl Dr.g Dr.F.kp Dr.b .nil pass0 (pa_cons (pe_ix (r := rIxT K) ix_tup (pe_ix (r := rIxT K) ix_tup (pv 2) pe_int (fun _ _ => rfl)) pe_int (fun _ _ => rfl)) (pa_cons (pe_tup (pa_cons pe_str (pa_cons pe_str (pa_cons pe_str (pa_cons pe_str (pa_cons pe_str pa_nil)))))) pa_nil))) pe_bl (nomark _))))) (pss_one (ps_ret pe_bl)) pss_nil)
      (pss_cons (ps_for PassesOwn.never rfl (pi_range1 rfl B.range (pa_cons pe_int pa_nil)) (pg_name (i := 3) scLaw.nd rfl (Or.inl rfl)) (pss_one (ps_if (pt_not (pt_val (pe_call Gf h6 rfl Df.g Df.F.kp Df.b .nil pass0 (pa_cons (pe_call Gb h1 rfl Db.g Db.F.kp Db.b .nil pass0 (pa_cons (pe_call Gh h1 rfl Dh.g Dh.F.kp Dh.b .nil pass0 (pa_cons (pv 3) pa_nil)) (pa_cons (pv 3) pa_nil))) pa_nil)))) (pss_one (ps_ret pe_bl)) pss_nil)))
      (pss_cons (ps_for PassesOwn.never rfl (pi_list (pe_op op_cat (pe_lst (pa_cons pe_int (pa_cons pe_int (pa_cons pe_int pa_nil)))) (pe_callTy call_list_of rfl B.list PyProof.Rows.boot_list (pa_cons (pv 0) pa_nil)))) (pg_name (i := 4) scLaw.nd rfl (Or.inl rfl)) (pss_cons (ps_set (i := 5) scLaw.nd rfl (Or.inl rfl) (pe_call Gh h1 rfl Dh.g Dh.F.kp Dh.b .nil pass0 (pa_cons (pv 4) pa_nil)))
      (pss_cons (ps_if (PW.pt (pw_or (pt_cmpR op_notN1 (pe_call Gc h5 rfl Dc.g Dc.F.kp Dc.b .nil passL (pa_cons (pv 5) pa_nil)) pe_non (nomark _)) (pw_or1 (pt_not (pt_val (pe_call Gf h6 rfl Df.g Df.F.kp Df.b .nil pass0 (pa_cons (pe_call Gb h1 rfl Db.g Db.F.kp Db.b .nil pass0 (pa_cons (pv 5) (pa_cons (pe_op op_fdiv (pe_int1 B.int (pv 4)) pe_int) pa_nil))) pa_nil))))))) (pss_one (ps_ret pe_bl)) pss_nil)
      (pss_cons (ps_set (i := 6) scLaw.nd rfl (Or.inl rfl) (pe_call Gd h1 rfl Dd.g Dd.F.kp Dd.b .nil pass0 (pa_cons (pv 4) (pa_cons pe_int pa_nil))))
      (pss_one (ps_for PassesOwn.never rfl (pi_tup (pv 5)) (pg_name (i := 7) scLaw.nd rfl (Or.inl rfl)) (pss_cons (ps_set (i := 8) scLaw.nd rfl (Or.inl rfl) (pe_ix (r := rIxT K) ix_tup (pv 7) pe_int (fun _ _ => rfl)))
      (pss_cons (ps_set (i := 9) scLaw.nd rfl (Or.inl rfl) (pe_call Gl h2 rfl Dl.g Dl.F.kp Dl.b .nil pass0 (pa_cons (pv 8) (pa_cons (pv 6) (pa_cons pe_int pa_nil)))))
      (pss_cons (ps_set (i := 10) scLaw.nd rfl (Or.inl rfl) (pe_op op_mod (pe_int1 B.int (pe_ix (r := rIxL K) ix_list (pv 6) pe_int (fun _ _ => rfl))) (pe_len B.len (pv 9))))
      (pss_cons (ps_set (i := 11) scLaw.nd rfl (Or.inl rfl) (pe_op op_catA (pe_op op_catA (pe_slice sl_tupA (pv 9) po_none (po_some (pv 10))) (pe_tup (pa_cons (pe_ix (r := rIxL K) ix_list (pe_lst (pa_cons pe_int (pa_cons pe_str pa_nil))) (pe_int1 B.int (pe_cmpR op_eq (pe_ix (r := rIxT K) ix_tup (pe_ix (r := rIxT K) ix_tup (pv 8) (pv 10) (fun _ _ => rfl)) pe_int (fun _ _ => rfl)) pe_str (nomark _))) (fun _ _ => rfl)) pa_nil))) (pe_slice sl_tupA (pv 9) (po_some (pe_op op_add (pv 10) pe_int)) po_none)))
      (pss_cons (ps_set (i := 1) scLaw.nd rfl (Or.inl rfl) (pe_lst (pa_cons (pe_call Gr h3 rfl Dr.g Dr.F.kp Dr.b .nil pass0 (pa_cons (pv 8) (pa_cons (pv 9) pa_nil))) (pa_cons (pe_call Gr h3 rfl Dr.g Dr.F.kp Dr.b .nil pass0 (pa_cons (pv 8) (pa_cons (pv 11) pa_nil))) (pa_cons (pe_call Gr h3 rfl Dr.g Dr.F.kp Dr.b .nil pass0 (pa_cons (pv 8) (pa_cons (pe_slice sl_tupA (pv 9) (po_some pe_int) po_none) pa_nil))) (pa_cons (pe_call Gr h3 rfl Dr.g Dr.F.kp Dr.b .nil pass0 (pa_cons (pv 8) (pa_cons (pe_op op_catA (pv 9) (pe_tup (pa_cons pe_int pa_nil))) pa_nil))) pa_nil))))))
      (pss_cons (ps_set (i := 1) scLaw.nd rfl (Or.inl rfl) (pe_op op_cat (pv 1) (pe_lst (pa_cons (pe_call Gr h3 rfl Dr.g Dr.F.kp Dr.b .nil pass0 (pa_cons (pv 8) (pa_cons (pe_callTy call_list_of rfl B.list PyProof.Rows.boot_list (pa_cons (pv 9) pa_nil)) pa_nil))) (pa_cons (pe_call Gr h3 rfl Dr.g Dr.F.kp Dr.b .nil pass0 (pa_cons (pv 8) (pa_cons (pe_op op_catA (pe_op op_catA (pe_slice sl_tupA (pv 9) po_none (po_some (pv 10))) (pe_tup (pa_cons pe_non pa_nil))) (pe_slice sl_tupA (pv 9) (po_some (pe_op op_add (pv 10) pe_int)) po_none)) pa_nil))) pa_nil)))))
      (pss_cons (ps_if (pt_not (pt_val (pe_call Gs h6 rfl Ds.g Ds.F.kp Ds.b .nil pass0 (pa_cons (pv 1) (pa_cons (pe_lst (pa_cons pe_bl (pa_cons pe_bl (pa_cons pe_bl (pa_cons pe_bl (pa_cons pe_bl (pa_cons pe_bl pa_nil))))))) pa_nil))))) (pss_one (ps_ret pe_bl)) pss_nil)
      (pss_cons (ps_set (i := 12) scLaw.nd rfl (Or.inl rfl) (pe_lst (pa_cons (pe_call Go h1 rfl Do.g Do.F.kp Do.b .nil pass0 (pa_cons (pv 5) (pa_cons (pe_ix (r := rIxT K) ix_tup (pv 7) pe_int (fun _ _ => rfl)) pa_nil))) (pa_cons (pe_call Go h1 rfl Do.g Do.F.kp Do.b .nil pass0 (pa_cons (pv 5) (pa_cons pe_str pa_nil))) (pa_cons (pe_call Gp h1 rfl Dp_.g Dp_.F.kp Dp_.b .nil pass0 (pa_cons (pv 8) (pa_cons (pe_ix (r := rIxT K) ix_tup (pe_ix (r := rIxT K) ix_tup (pv 8) (pv 10) (fun _ _ => rfl)) pe_int (fun _ _ => rfl)) pa_nil))) (pa_cons (pe_call Gp h1 rfl Dp_.g Dp_.F.kp Dp_.b .nil pass0 (pa_cons (pv 8) (pa_cons pe_str pa_nil))) pa_nil))))))
      (pss_one (ps_if (pt_not (pt_val (pe_call Gs h6 rfl Ds.g Ds.F.kp Ds.b .nil pass0 (pa_cons (pv 12) (pa_cons (pe_lst (pa_cons (pv 8) (pa_cons pe_non (pa_cons (pv 10) (pa_cons pe_non pa_nil))))) pa_nil))))) (pss_one (ps_ret pe_bl)) pss_nil))))))))))))))))
      (pss_one (ps_ret pe_bl))))))))), ?_⟩
    clear h1 h2 h3 h5 h6
    -- the names and the lists of names
    refine q_asgL (xs := [.bl true, .bl true, .bl false, .bl false, .bl false, .bl false, .bl false]) (el_lst (ea_cons (ev_name (K := K) (ed_str ev_c) (by decide +kernel) (by decide +kernel)) (ea_cons (ev_name (K := K) (ed_str ev_c) (by decide +kernel) (by decide +kernel)) (ea_cons (ev_name (K := K) (ed_str ev_c) (by decide +kernel) (by decide +kernel)) (ea_cons (ev_name (K := K) (ed_str ev_c) (by decide +kernel) (by decide +kernel))
      (ea_cons (ev_name (K := K) (ed_str ev_c) (by decide +kernel) (by decide +kernel)) (ea_cons (ev_name (K := K) (ed_int ev_c) (by decide +kernel) (by decide +kernel)) (ea_cons (ev_name (K := K) (ed_str ev_c) (by decide +kernel) (by decide +kernel)) ea_nil))))))) (by decide)) fun p1 H1 _ e1 q1 => ?_
    refine q_asgL (el_catV (p := p1) (ys := [.bl true, .bl false, .bl true]) (ev_var rfl) q1 (el_lst (ea_cons (ev_unl (K := K) (ed_lst (eds_cons (ed_str ev_c) (eds_cons (ed_str ev_c) eds_nil)) (by decide)) ⟨["a", "b"], by decide, .inl rfl⟩ (by decide +kernel))
      (ea_cons (ev_unl (K := K) (ed_tup (eds_cons (ed_str ev_c) (eds_cons (ed_str ev_c) (eds_cons (ed_str ev_c) eds_nil))) (by decide)) ⟨["a", "b", "a"], by decide, .inr rfl⟩ (by decide +kernel))
      (ea_cons (ev_unl (K := K) (ed_lst eds_nil (by decide)) ⟨[], by decide, .inl rfl⟩ (by decide +kernel)) ea_nil))) (by decide)) (by decide)) fun p2 H2 _ e2 q2 => ?_
    refine q_when (b := false) (et_not (a := true) (et_B (ev_sam (K := K) (n := 6) (d := .list (B10.map .bool)) (ed_bools (bs := B10) rfl q2) (ed_lst (eds_cons (ed_bl ev_c) (eds_cons (ed_bl ev_c) (eds_cons (ed_bl ev_c) (eds_cons (ed_bl ev_c) (eds_cons (ed_bl ev_c) (eds_cons (ed_bl ev_c) (eds_cons (ed_bl ev_c) (eds_cons (ed_bl ev_c) (eds_cons (ed_bl ev_c) (eds_cons (ed_bl ev_c) eds_nil)))))))))) (by decide)) (by decide +kernel)))) (fun hb => absurd hb (by decide)) (fun _ H3 e3 => ?_)
    -- the wide schema
    refine q_asgD (K := K) (d := schD wideS) (ed_is (ed_tupOf (ed_lcS gW gW_no ev_c (by decide +kernel) (fun _ => rfl) fun c H4 e4 => ed_tup (eds_cons (ed_str (ev_var rfl)) (eds_cons (ed_tupOf (ed_lcS gC gC_no ev_c (by decide +kernel) (fun _ => rfl) fun c2 H5 e5 => ed_tup (eds_cons (ed_str (ev_var rfl)) (eds_cons (ed_str ev_c) eds_nil)) (Nat.le_of_ble_eq_true rfl))) eds_nil)) (Nat.le_of_ble_eq_true rfl))) wide_is) fun v2 H4 e4 hv2 => ?_
    refine q_when (b := false) (et_or (a := false) (b := false) (et_test (ev_notNv (ev_chk (K := K) (ed_var rfl hv2) wide_pre wide_ok) (by decide))) fun _ => et_test (ev_notBv (x := .bl true) (ev_rowB (K := K) (cs := wideCols) (d := wideRow) (ed_ixT (ed_ixT (d := tabD ("a", wideCols)) (ed_var rfl hv2) (ev_c (v := .int 0)) at_zero) (ev_c (v := .int 1)) rfl)
      (ed_tup (eds_cons (ed_str ev_c) (eds_cons (ed_str ev_c) (eds_cons (ed_str ev_c) (eds_cons (ed_str ev_c) (eds_cons (ed_str ev_c) eds_nil))))) (by decide)) (by decide) wideRow_pre wideRow_ok) rfl (by decide))) (fun hb => absurd hb (by decide)) (fun _ H5 e5 => ?_)
    have x5 : Ex H H5 := (((e1.trans e2).trans e3).trans e4).trans e5
    -- the 24 changed schemas
    refine q_forR1 (n := 24) (ea_cons ev_c ea_nil) ⟨by decide, by decide⟩ (fun i σ' H' => Ex H H' ∧ Slots a σ') (fun H6 e6 => ⟨x5.trans e6, _, _, _, _, _, _, _, _, _, _, _, _, _, _, rfl⟩) ?_ ?_
    · rintro i σ' H6 hi ⟨x6, o1, o2, o3, o4, o5, o6, o7, o8, o9, o10, o11, o12, o13, o14, rfl⟩
      refine s_when (b := false) (et_not (a := true) (et_B (ev_ref (K := K) (ed_bad (ed_sch (n := (i : Nat)) (ev_var rfl)) (ev_var (v := .int (i : Nat)) rfl) (schOf_headed _)) (bad_ok _ _).1 (bad_ok _ _).2))) (fun hb => absurd hb (by decide)) (fun _ H7 e7 => ⟨x6.trans e7, _, _, _, _, _, _, _, _, _, _, _, _, _, _, rfl⟩)
    · rintro σ' H6 ⟨x6, o1, o2, o3, o4, o5, o6, o7, o8, o9, o10, o11, o12, o13, o14, rfl⟩
      -- [0, 1, 2] + list(script)
      have xl : (([0, 1, 2] ++ ns : List Int).map V.int).length ≤ 100 := by
        rw [List.length_map, List.length_append]
        show 3 + ns.length ≤ 100
        omega
      have hL : EvL _ [some (.ref a), o1, o2, o3, o4, o5, o6, o7, o8, o9, o10, o11, o12, o13, o14] H6 (([0, 1, 2] ++ ns : List Int).map V.int) :=
        el_cat (xs := [.int 0, .int 1, .int 2]) (el_lst (ea_cons ev_c (ea_cons ev_c (ea_cons ev_c ea_nil))) (by decide)) (el_list (K := K) (ev_var (v := .ref a) (i := 0) rfl) (ex_l x6 hS)) (by
          rw [List.length_map]
          show 3 + ns.length ≤ 100000
          omega)
      refine q_forNLn (K := K) hL (fun p i σ' H' => Slots a σ' ∧ H' p = some (.lst (([0, 1, 2] ++ ns : List Int).map V.int))) (fun p H7 _ e7 hp => ⟨⟨_, _, _, _, _, _, _, _, _, _, _, _, _, _, rfl⟩, hp⟩) (fun p i σ' H' _ hp => sq_of hp.2) ?_ ?_
      · rintro p i x σ' H7 hx ⟨⟨o1, o2, o3, o4, o5, o6, o7, o8, o9, o10, o11, o12, o13, o14, rfl⟩, hp⟩
        obtain ⟨n, rfl⟩ : ∃ n, x = V.int n := by
          rw [List.getElem?_map] at hx
          cases e : ([0, 1, 2] ++ ns : List Int)[i]? with
          | none => rw [e] at hx; cases hx
          | some n => rw [e] at hx; exact ⟨n, (Option.some.inj hx).symm⟩
        refine q_asgD (K := K) (d := schD (schOf n)) (ed_sch (ev_var rfl)) fun v5 H8 e8 hv5 => ?_
        refine q_when (b := false) (et_or (a := false) (b := false) (et_test (ev_notNv (ev_chk (K := K) (ed_var rfl hv5) (schOf_pre n) (schOf_ok n)) (by decide))) fun _ => et_not (a := true) (et_B (ev_ref (K := K) (ed_bad (n := n / 3) (ed_var rfl hv5) (ev_op (ev_int1 (i := n) (ev_var rfl)) (ev_c (v := .int 3)) (rv_I (C := CDiv) (g := fun i j => .int (i / j)) ⟨by decide, by decide⟩)) (schOf_headed n)) (bad_ok _ _).1 (bad_ok _ _).2)))
          (fun hb => absurd hb (by decide)) (fun _ H9 e9 => ?_)
        refine q_asgP (P := Eight) (ep_drw (n := n) (ev_var rfl) ev_c) ?_
        rintro _ H10 e10 ⟨ms, pd, rfl, hms, hpd⟩
        have hv10 := dp_ex (e9.trans e10) hv5
        have x10 : Ex H7 H10 := (e8.trans e9).trans e10
        cases hv10 with
        | @tup a5 xs5 _ hs5 ha5 =>
          have hl5 := dpa_len ha5
          rw [List.length_map] at hl5
          refine s_forT (a := a5) (xs := xs5) (ev_var rfl) hs5 (fun i σ' H' => Ex H10 H' ∧ Slots6 a (.ref a5) (.ref pd) σ') (fun H11 e11 => ⟨e11, _, _, _, _, _, _, _, _, _, _, _, _, rfl⟩) (fun i σ' H' _ q => ex_t q.1 hs5) ?_ ?_
          · rintro i x σ' H11 hx5 ⟨x11, o1, o2, o3, o4, o7, o8, o9, o10, o11, o12, o13, o14, rfl⟩
            obtain ⟨d, hd, hdx⟩ := dpa_got ha5 hx5
            rw [List.getElem?_map] at hd
            have hi : i < (schOf n).length := by
              have hlt := (List.getElem?_eq_some_iff.mp hx5).1
              omega
            rw [List.getElem?_eq_getElem hi] at hd
            obtain rfl : tabD (schOf n)[i] = d := Option.some.inj hd
            have T := tabs_ok n _ (List.getElem_mem hi)
            generalize (schOf n)[i] = t at T hdx
            obtain ⟨z, cs⟩ := t
            have l1 : 1 ≤ cs.length := T.l1
            have l7 : cs.length ≤ 7 := T.l7
            have l1000 : cs.length ≤ 1000 := by omega
            have hsch : ∀ {H' : Hp}, Ex H10 H' → Dp K H' (.ref a5) (schD (schOf n)) := fun e => dp_ex e (.tup hs5 ha5)
            have hrl : (mkRow cs ms).length = cs.length := row_length cs ms
            have hlr : lenD (.tuple (mkRow cs ms)) = some cs.length := by
              show some (mkRow cs ms).length = _
              rw [hrl]
            obtain ⟨m0, hm0⟩ : ∃ m0, ms[0]? = some m0 := ⟨ms[0]'(by omega), List.getElem?_eq_getElem (by omega)⟩
            have hn0 : (ms.map PyData.int)[0]? = some (.int m0) := by rw [List.getElem?_map, hm0] <;> rfl
            obtain ⟨j, hj, ej⟩ : ∃ j : Nat, j < cs.length ∧ m0 % ((cs.length : Nat) : Int) = (j : Int) := by
              have g1 : 0 ≤ m0 % ((cs.length : Nat) : Int) := Int.emod_nonneg _ (by omega)
              have g2 : m0 % ((cs.length : Nat) : Int) < ((cs.length : Nat) : Int) := Int.emod_lt_of_pos _ (by omega)
              exact ⟨(m0 % ((cs.length : Nat) : Int)).toNat, by omega, by omega⟩
            have eD : (cs.map colD)[j]? = some (colD cs[j]) := by rw [List.getElem?_map, List.getElem?_eq_getElem hj] <;> rfl
            -- columns, row, at, wrong
            refine q_asgD (K := K) (d := colsD cs) (ed_ixT (d := colsD cs) (ds := [.str z, colsD cs]) (ed_var rfl (dp_ex x11 hdx)) (ev_c (v := .int 1)) rfl) fun v8 H12 e12 hv8 => ?_
            have x12 := x11.trans e12
            refine q_asgD (K := K) (d := .tuple (mkRow cs ms)) (ed_lrow (ed_var rfl hv8) (ed_intL (p := pd) rfl (x12 _ _ hpd)) ev_c (by omega) l1000) fun v9 H13 e13 hv9 => ?_
            have x13 := x12.trans e13
            refine q_asg (v := .int (j : Nat)) (ev_is (ev_mod (i := m0) (j := ((cs.length : Nat) : Int)) (ev_int1 (ev_int (ed_ixL (K := K) (ed_intL (p := pd) rfl (x13 _ _ hpd)) (ev_c (v := .int 0)) (at_nat (j := 0) hn0)))) (ev_lenD (K := K) (n := cs.length) (ed_var rfl hv9) hlr) (by omega)) (by rw [ej])) fun H14 e14 => ?_
            have x14 := x13.trans e14
            refine q_asgD (K := K) (d := .tuple ((mkRow cs ms).take j ++ [oddD cs[j].2] ++ (mkRow cs ms).drop (j + 1))) (ed_swap (ed_var rfl (dp_ex e14 hv9)) (ev_var rfl) (ed_tup (eds_cons (ed_ixL (ds := [.int 7, .str "seven"]) (ed_lst (eds_cons (ed_int ev_c) (eds_cons (ed_str ev_c) eds_nil)) (by decide))
              (ev_int1b (k := decide (cs[j].2 = "number")) (ev_eq (x := .str cs[j].2) (y := .str "number") (ev_str (ed_ixT (K := K) (d := .str cs[j].2) (ds := [.str cs[j].1, .str cs[j].2]) (ed_ixT (d := colD cs[j]) (ds := cs.map colD) (ed_var rfl (dp_ex (e13.trans e14) hv8)) (ev_var (v := .int (j : Nat)) rfl) (at_nat eD)) (ev_c (v := .int 1)) rfl)) ev_c rfl str_dec)) (odd_at _)) eds_nil) (Nat.le_of_ble_eq_true rfl)) (by omega) (by omega)) fun v11 H15 e15 hv11 => ?_
            have x15 := x14.trans e15
            have c15 : Dp K H15 v8 (colsD cs) := dp_ex ((e13.trans e14).trans e15) hv8
            have r15 : Dp K H15 v9 (.tuple (mkRow cs ms)) := dp_ex (e14.trans e15) hv9
            -- what is_row told
            have cut1 : cutD (mkRow cs ms) (some 1) none = (mkRow cs ms).drop 1 := cut_hi (i := 1) (by omega)
            refine q_asgL (xs := [.bl true, .bl false, .bl false, .bl false]) (el_lst (ea_cons (ev_rowB (K := K) (ed_var rfl c15) (ed_var rfl r15) l1000 (pre_row cs ms) (row_ok T.kinds ms))
              (ea_cons (ev_rowB (K := K) (ed_var rfl c15) (ed_var rfl hv11) l1000 (pre_swap (row_short cs ms) (odd_short _) j) (row_wrong hj hrl (odd_kind _)))
              (ea_cons (ev_rowB (K := K) (d := .tuple ((mkRow cs ms).drop 1)) (ed_var rfl c15) (ed_is (ed_slT (ed_var rfl r15) (eo_some (ev_c (v := .int 1))) eo_none) (by rw [cut1])) l1000 (List.all_eq_true.mpr fun d hd => row_short cs ms d (List.mem_of_mem_drop hd)) (row_len (by rw [List.length_drop]; omega)))
              (ea_cons (ev_rowB (K := K) (d := .tuple (mkRow cs ms ++ [.int 1])) (ed_var rfl c15) (ed_catT (ed_var rfl r15) (ed_tup (eds_cons (ed_int ev_c) eds_nil) (by decide)) (by show (mkRow cs ms).length + 1 ≤ 100000; omega)) l1000 (List.all_eq_true.mpr fun d hd => (List.mem_append.mp hd).elim (row_short cs ms d) fun h => by rw [List.mem_singleton.mp h]; rfl) (row_len (by rw [List.length_append]; show (mkRow cs ms).length + 1 ≠ _; omega))) ea_nil)))) (by decide)) fun p6 H16 _ e16 q16 => ?_
            have c16 := dp_ex e16 c15
            have r16 := dp_ex e16 r15
            refine q_asgL (el_catV (p := p6) (ys := [.bl false, .bl false]) (ev_var rfl) q16 (el_lst (ea_cons (ev_rowB (K := K) (d := .list (mkRow cs ms)) (ed_var rfl c16) (ed_lstOf (ed_var rfl r16) (.inr rfl)) l1000 rfl rfl)
              (ea_cons (ev_rowB (K := K) (ed_var rfl c16) (ed_swap (x := .none) (ed_var rfl r16) (ev_var rfl) (ed_tup (eds_cons (ed_non ev_c) eds_nil) (by decide)) (by omega) (by omega)) l1000 (pre_swap (row_short cs ms) rfl j) (row_wrong hj hrl (none_kind _))) ea_nil)) (by decide)) (by decide)) fun p7 H17 _ e17 q17 => ?_
            have x17 := (x15.trans e16).trans e17
            refine q_when (b := false) (et_not (a := true) (et_B (ev_sam (K := K) (n := 6) (d := .list (B6.map .bool)) (ed_bools (bs := B6) rfl q17) (ed_lst (eds_cons (ed_bl ev_c) (eds_cons (ed_bl ev_c) (eds_cons (ed_bl ev_c) (eds_cons (ed_bl ev_c) (eds_cons (ed_bl ev_c) (eds_cons (ed_bl ev_c) eds_nil)))))) (by decide)) (by decide +kernel)))) (fun hb => absurd hb (by decide)) (fun _ H18 e18 => ?_)
            have x18 := x17.trans e18
            have c18 := dp_ex (e17.trans e18) c16
            -- what was found
            refine q_asgD (K := K) (d := .list [colsD cs, .none, .int (j : Nat), .none]) (ed_lst (eds_cons (ed_cof (s := schOf n) (z := z) (ed_var rfl (hsch x18)) (ev_str (ed_ixT (K := K) (d := .str z) (ds := [.str z, colsD cs]) (ed_var rfl (dp_ex x18 hdx)) (ev_c (v := .int 0)) at_zero)) T.own)
              (eds_cons (ed_cof (s := schOf n) (ed_var rfl (hsch x18)) ev_c T.zz)
              (eds_cons (ed_int (ev_pla (K := K) (cs := cs) (z := cs[j].1) (ed_var rfl c18) (ev_str (ed_ixT (K := K) (d := .str cs[j].1) (ds := [.str cs[j].1, .str cs[j].2]) (ed_ixT (d := colD cs[j]) (ds := cs.map colD) (ed_var rfl c18) (ev_var (v := .int (j : Nat)) rfl) (at_nat eD)) (ev_c (v := .int 0)) at_zero)) (T.pl ⟨j, hj⟩)))
              (eds_cons (ed_non (ev_pla (K := K) (cs := cs) (ed_var rfl c18) ev_c T.pz)) eds_nil)))) (by show 4 ≤ 100000; decide)) fun v12 H19 e19 hv12 => ?_
            have okf : okD 6 (.list [colsD cs, .none, .int (j : Nat), .none]) = true := by
              show (true && (okD 5 (colsD cs) && true)) = true
              have := T.ok
              rw [show okD 5 (colsD cs) = true from T.ok]
              rfl
            exact s_when (b := false) (et_not (a := true) (et_B (ev_sam (K := K) (n := 6) (ed_var rfl hv12) (ed_lst (eds_cons (ed_var rfl (dp_ex e19 c18)) (eds_cons (ed_non ev_c) (eds_cons (ed_int (ev_var rfl)) (eds_cons (ed_non ev_c) eds_nil)))) (by show 4 ≤ 100000; decide)) okf))) (fun hb => absurd hb (by decide)) (fun _ H20 e20 => ⟨(x18.trans e19).trans e20, _, _, _, _, _, _, _, _, _, _, _, _, rfl⟩)
          · rintro σ' H11 ⟨x11, o1, o2, o3, o4, o7, o8, o9, o10, o11, o12, o13, o14, rfl⟩
            exact ⟨⟨_, _, _, _, _, _, _, _, _, _, _, _, _, _, rfl⟩, x11 _ _ (x10 _ _ hp)⟩
      · rintro p σ' H7 _
        exact s_ret (D := { nx := fun _ H' => Q V.non H', rt := Q }) (v := .bl true) ev_c fun H8 _ => k H8
end
end K43
/-! What the top has written, fact by fact, and the law's promise from these. -/
namespace K43
open PySem L2 Evl
/-- a def of the top as the written part holds it -/
def IsDef (K : PySem.W.Frag) (x : Str) (st : Stmt) : Prop := ∃ (f : Addr) (oc : Value) (od : Option Addr) (kV dc pm : Value) (an : Option Addr) (cd ct : Value) (sl : Array (Option Value)),
  PySem.W.nsIn K mainGlobals x = some (some (.ref f)) ∧ K.lookup f = some ⟨oc, od, .func (PySem.W.fnOf x x (defArgs st) (defBody st) (defScope st) .none kV dc pm an cd ct), sl⟩ ∧ PySem.W.codeIn K cd x = true ∧ PySem.W.keepIn K (.ref f) = true
theorem is_def {K : PySem.W.Frag} {x : Str} {st : Stmt} {f : Addr} {oc : Value} {od : Option Addr} {kV dc pm : Value} {an : Option Addr} {cd ct : Value} {sl : Array (Option Value)}
    (a : PySem.W.nsIn K mainGlobals x = some (some (.ref f))) (l : K.lookup f = some ⟨oc, od, .func (PySem.W.fnOf x x (defArgs st) (defBody st) (defScope st) .none kV dc pm an cd ct), sl⟩) (c : PySem.W.codeIn K cd x = true) (k : PySem.W.keepIn K (.ref f) = true) : IsDef K x st :=
  ⟨f, oc, od, kV, dc, pm, an, cd, ct, sl, a, l, c, k⟩
theorem is_int {K : PySem.W.Frag} {x : Str} {i : Int} {t : Tok} (h : PySem.W.nsIn K mainGlobals x = some (some (.int i t))) : ∃ t, PySem.W.nsIn K mainGlobals x = some (some (.int i t)) := ⟨t, h⟩
theorem is_str {K : PySem.W.Frag} {x y : Str} {t : Tok} (h : PySem.W.nsIn K mainGlobals x = some (some (.str y t))) : ∃ t, PySem.W.nsIn K mainGlobals x = some (some (.str y t)) := ⟨t, h⟩
theorem def_mk {K : PySem.W.Frag} {h : Heap} {mg : Str → Option Value} {x : Str} {st : Stmt} {ps : List Str} (X : K.In h) (G : h.Ns mainGlobals mg) (D : IsDef K x st)
    (hb : ∀ (kV doc pm : Value) (an : Option Addr) (cdv ct : Value) (us : List Value), us.length = ps.length → bindArgs (PySem.W.fnOf x x (defArgs st) (defBody st) (defScope st) .none kV doc pm an cdv ct) ⟨us, []⟩ = pure (ps.zip us)) :
    ∃ f fd, DefAt K mg x st ps f fd := by
  obtain ⟨f, oc, od, kV, dc, pm, an, cd, ct, sl, a, l, c, k⟩ := D
  have F := fun_mk (st := st) l c k
  exact ⟨f, _, F, F.binds (ps := ps) hb, PySem.W.mg_of X G a⟩
theorem kit_ref {K : PySem.W.Frag} {t : Value} {C : Addr} {b : Bool} (hne : (t == Value.ref C) = false) (h2 : PySem.W.isClsIn K C = true) (h3 : PySem.W.typeIn K (.ref C) = some (.type "type")) (h4 : PySem.W.subIn K t (.ref C) = some b) : PySem.W.kitOne K t (.ref C) = some b := by
  have e2 : ((PySem.W.clsIn K C).isSome && PySem.W.typeIn K (.ref C) == some (.type "type")) = true := by
    have h2' : (PySem.W.clsIn K C).isSome = true := h2
    rw [h2', h3] <;> rfl
  unfold PySem.W.kitOne PySem.W.kitCls
  rw [hne, if_neg (by decide)]
  show (if ((PySem.W.clsIn K C).isSome && PySem.W.typeIn K (.ref C) == some (.type "type")) = true then PySem.W.subIn K t (.ref C) else none) = some b
  rw [if_pos e2]
  exact h4
theorem all_mk {l : PySem.W.OpenLaw} {w : World} {K : PySem.W.Frag} {h : Heap} {mg : Str → Option Value} {fa C fI Ak Bq : Addr} (X : K.In h) (G : h.Ns mainGlobals mg) (hfa : mg "law" = some (.ref fa))
    {nm q : Str} {N : Addr} {bs bm : List Value} {sn : List Str} {sub : List Value} {ab : Bool} {col : Option Bool} {dd : Option Addr} {k0 k1 k2 k3 k5 : Option Value}
    {oc : Value} {od : Option Addr} {doc pm : Value} {an : Option Addr} {cda cc : Addr} {ct : Value} {osl : Array (Option Value)} {ccl : Value} {cdd : Option Addr} {vs : Array Value} {ccs : Array (Option Value)} {file : Str} {tf : Tok} {cl : Value} {cld : Option Addr} {csl : Array (Option Value)}
    (d0 : IsDef K "is_number" sNum)
    (d1 : IsDef K "is_text" sTxt)
    (d2 : IsDef K "kind_of" sKind)
    (d3 : IsDef K "is_name" sName)
    (d4 : IsDef K "are_unlike" sUnl)
    (d5 : IsDef K "is_column" sCol)
    (d6 : IsDef K "are_columns" sCols)
    (d7 : IsDef K "is_table" sTab)
    (d8 : IsDef K "check_schema" sChk)
    (d9 : IsDef K "columns_of" sCof)
    (d10 : IsDef K "is_row" sRow)
    (d11 : IsDef K "place_of" sPla)
    (d12 : IsDef K "_law_draws" sDrw)
    (d13 : IsDef K "_law_same" sSam)
    (d14 : IsDef K "_law_schema" sSch)
    (d15 : IsDef K "_law_value" sVal)
    (d16 : IsDef K "_law_row" sLRow)
    (d17 : IsDef K "_law_bad" sBad)
    (d18 : IsDef K "_law_refused" sRef)
    (dl : IsDef K "law" sLaw)
    (c_num : ∃ t, PySem.W.nsIn K mainGlobals "MOST_NUMBER" = some (some (.int 999999 t)))
    (c_txt : ∃ t, PySem.W.nsIn K mainGlobals "MOST_TEXT" = some (some (.int 40 t)))
    (c_tab : ∃ t, PySem.W.nsIn K mainGlobals "MOST_TABLES" = some (some (.int 4 t)))
    (c_col : ∃ t, PySem.W.nsIn K mainGlobals "MOST_COLUMNS" = some (some (.int 5 t)))
    (c_nam : ∃ t, PySem.W.nsIn K mainGlobals "MOST_NAME" = some (some (.int 8 t)))
    (c_ltr : ∃ t, PySem.W.nsIn K mainGlobals "LETTERS" = some (some (.str "abcdefghijklmnopqrstuvwxyz" t)))
    (b_isi : PySem.W.nsIn K mainGlobals "isinstance" = some none)
    (b_int : PySem.W.nsIn K mainGlobals "int" = some none)
    (b_bool : PySem.W.nsIn K mainGlobals "bool" = some none)
    (b_str : PySem.W.nsIn K mainGlobals "str" = some none)
    (b_tuple : PySem.W.nsIn K mainGlobals "tuple" = some none)
    (b_list : PySem.W.nsIn K mainGlobals "list" = some none)
    (b_len : PySem.W.nsIn K mainGlobals "len" = some none)
    (b_all : PySem.W.nsIn K mainGlobals "all" = some none)
    (b_set : PySem.W.nsIn K mainGlobals "set" = some none)
    (b_range : PySem.W.nsIn K mainGlobals "range" = some none)
    (b_enumerate : PySem.W.nsIn K mainGlobals "enumerate" = some none)
    (aC : PySem.W.nsIn K mainGlobals "InvalidArgument" = some (some (.ref C)))
    (aA : PySem.W.nsIn K mainGlobals "AskError" = some (some (.ref Ak)))
    (aB : PySem.W.nsIn K mainGlobals "BadQuestion" = some (some (.ref Bq)))
    (xL : K.lookup C = some (excClassObj nm q C N bs bm true sn sub ab col dd k0 k1 k2 k3 k5 "ValueError.__new__"))
    (hbm : PySem.HandSPX.refsVE bm = true)
    (sa : PySem.W.findIn K (.ref C) "__setattr__" = some (some (.builtin "object.__setattr__")))
    (noN : PySem.W.findIn K (.ref C) "name" = some none)
    (iC : PySem.W.findIn K (.ref C) "__init__" = some (some (.ref fI)))
    (tI : PySem.W.typeIn K (.ref fI) = some (.type "function"))
    (kC : PySem.W.keepIn K (.ref C) = true)
    (exC : PySem.W.subIn K (.ref C) (.type "BaseException") = some true)
    (tyC : PySem.W.typeIn K (.ref C) = some (.type "type"))
    (lI : K.lookup fI = some ⟨oc, od, .func (PySem.W.ksFn "__init__" "InvalidArgument.__init__" (defArgs sInv) (defBody sInv) (defScope sInv) .none .none doc pm an (.ref cda) ct cc), osl⟩)
    (cI : PySem.W.codeIn K (.ref cda) "InvalidArgument.__init__" = true)
    (lc : K.lookup cda = some ⟨ccl, cdd, .fields vs, ccs⟩)
    (hvs : vs[2]? = some (.str file tf))
    (hfile : ((l.prog.main.file : Str) == file) = true)
    (lcc : K.lookup cc = some ⟨cl, cld, .cell (some (.ref C)), csl⟩)
    (sup : PySem.W.ks_superIn K C C "__init__" = some (some (.builtin "ValueError.__init__")))
    (sb : PySem.W.subIn K (.ref C) (.type "ValueError") = some true)
    (ms : PySem.W.mroIn K C (.ref C) = some true)
    (op : PySem.W.nsIn K cStatics "thirdparty.any" = some none)
    (su : PySem.W.nsIn K mainGlobals "super" = some none)
    (tp : (l.prog.main.scope.names.lookup ("super" : Str)).isSome = false)
    (ga : PySem.W.findIn K (.ref C) "__getattribute__" = some (some (.builtin "BaseException.__getattribute__")))
    (gg : PySem.W.findIn K (.ref C) "__getattr__" = some none)
    (hdC : PySem.W.hasDictIn K C = true)
    (eha : PySem.W.findIn K (.ref C) "__class__" = some (some (.builtin "object.__class__")))
    (ehn : PySem.W.specialIn K (.builtin "object.__class__") "__get__" = some (some (.builtin "getset_descriptor.__get__")))
    (eht : PySem.W.takesIn K (.builtin "object.__class__") = some true)
    (ehm : PySem.W.mroIn K C (.type "object") = some true)
    (nA : (Value.ref C == Value.ref Ak) = false)
    (iA : PySem.W.isClsIn K Ak = true)
    (tA : PySem.W.typeIn K (.ref Ak) = some (.type "type"))
    (sA : PySem.W.subIn K (.ref C) (.ref Ak) = some true)
    (nB : (Value.ref C == Value.ref Bq) = false)
    (iB : PySem.W.isClsIn K Bq = true)
    (tB : PySem.W.typeIn K (.ref Bq) = some (.type "type"))
    (sB : PySem.W.subIn K (.ref C) (.ref Bq) = some false)
    (sC : PySem.W.subIn K (.ref C) (.ref C) = some true) :
    ∃ fd : FuncData, (∀ (s : Shared) (v : Value), BindsTo s fd ⟨[v], []⟩ [("_law_script", v)]) ∧ ∀ base : Heap, K.In base → base.Ns mainGlobals mg → FnOk l.prog w K mg base CX0 7 fa fd ["_law_script"] (spLaw K) := by
  obtain ⟨f, oc4, od4, kV4, dc4, pm4, an4, cd4, ct4, sl4, a4, l4, c4, k4⟩ := dl
  have e := hfa.symm.trans (PySem.W.mg_of X G a4)
  cases e
  have F4 := fun_mk (st := sLaw) l4 c4 k4
  have B : Blt mg := {isi := PySem.W.mg_none_of X G b_isi, int := PySem.W.mg_none_of X G b_int, bool := PySem.W.mg_none_of X G b_bool, str := PySem.W.mg_none_of X G b_str, tuple := PySem.W.mg_none_of X G b_tuple, list := PySem.W.mg_none_of X G b_list, len := PySem.W.mg_none_of X G b_len, all := PySem.W.mg_none_of X G b_all, set := PySem.W.mg_none_of X G b_set, range := PySem.W.mg_none_of X G b_range, enumerate := PySem.W.mg_none_of X G b_enumerate}
  have cst : ∀ {x : Str} {g : Tok → Value}, (∃ t, PySem.W.nsIn K mainGlobals x = some (some (g t))) → ∃ t, mg x = some (g t) := fun ⟨t, ht⟩ => ⟨t, PySem.W.mg_of X G ht⟩
  have Cs : Cst mg := {num := cst c_num, txt := cst c_txt, tab := cst c_tab, col := cst c_col, nam := cst c_nam, ltr := cst c_ltr}
  have T : InvTxt l.prog K mg C fI :=
    { gC := PySem.W.mg_of X G aC, cls := ⟨_, _, _, _, _, _, _, _, _, _, _, _, _, _, _, xL, hbm⟩, sa := sa, noN := noN, iC := iC, tC := tI, kC := kC, exC := exC, tyC := tyC,
      fn := ⟨_, _, _, _, _, _, _, _, _, _, _, _, _, _, _, _, _, _, lI, cI, lc, hvs, hfile, lcc⟩, sup := sup, sb := sb, ms := ms, op := op, su := PySem.W.mg_none_of X G su, tp := tp }
  have R : RefTxt K mg C Ak Bq :=
    { xf := ⟨ga, gg, exC, hdC⟩, ex := ⟨ga, gg, exC, hdC, eha, ehn, eht, ehm⟩, gA := PySem.W.mg_of X G aA, gB := PySem.W.mg_of X G aB, yA := kit_ref nA iA tA sA, nB := kit_ref nB iB tB sB, te := PySem.W.exm_ref exC hdC tyC sC }
  obtain ⟨f0, fd0, D0⟩ := def_mk (ps := ["value", "most"]) X G d0 fun _ _ _ _ _ _ us hl => match us, hl with | [_, _], _ => rfl
  obtain ⟨f1, fd1, D1⟩ := def_mk (ps := ["value"]) X G d1 fun _ _ _ _ _ _ us hl => match us, hl with | [_], _ => rfl
  obtain ⟨f2, fd2, D2⟩ := def_mk (ps := ["value"]) X G d2 fun _ _ _ _ _ _ us hl => match us, hl with | [_], _ => rfl
  obtain ⟨f3, fd3, D3⟩ := def_mk (ps := ["value"]) X G d3 fun _ _ _ _ _ _ us hl => match us, hl with | [_], _ => rfl
  obtain ⟨f4, fd4, D4⟩ := def_mk (ps := ["names"]) X G d4 fun _ _ _ _ _ _ us hl => match us, hl with | [_], _ => rfl
  obtain ⟨f5, fd5, D5⟩ := def_mk (ps := ["column"]) X G d5 fun _ _ _ _ _ _ us hl => match us, hl with | [_], _ => rfl
  obtain ⟨f6, fd6, D6⟩ := def_mk (ps := ["columns"]) X G d6 fun _ _ _ _ _ _ us hl => match us, hl with | [_], _ => rfl
  obtain ⟨f7, fd7, D7⟩ := def_mk (ps := ["table"]) X G d7 fun _ _ _ _ _ _ us hl => match us, hl with | [_], _ => rfl
  obtain ⟨f8, fd8, D8⟩ := def_mk (ps := ["schema"]) X G d8 fun _ _ _ _ _ _ us hl => match us, hl with | [_], _ => rfl
  obtain ⟨f9, fd9, D9⟩ := def_mk (ps := ["schema", "name"]) X G d9 fun _ _ _ _ _ _ us hl => match us, hl with | [_, _], _ => rfl
  obtain ⟨f10, fd10, D10⟩ := def_mk (ps := ["columns", "row"]) X G d10 fun _ _ _ _ _ _ us hl => match us, hl with | [_, _], _ => rfl
  obtain ⟨f11, fd11, D11⟩ := def_mk (ps := ["columns", "name"]) X G d11 fun _ _ _ _ _ _ us hl => match us, hl with | [_, _], _ => rfl
  obtain ⟨f12, fd12, D12⟩ := def_mk (ps := ["_law_cell", "_law_many"]) X G d12 fun _ _ _ _ _ _ us hl => match us, hl with | [_, _], _ => rfl
  obtain ⟨f13, fd13, D13⟩ := def_mk (ps := ["_law_told", "_law_due"]) X G d13 fun _ _ _ _ _ _ us hl => match us, hl with | [_, _], _ => rfl
  obtain ⟨f14, fd14, D14⟩ := def_mk (ps := ["_law_n"]) X G d14 fun _ _ _ _ _ _ us hl => match us, hl with | [_], _ => rfl
  obtain ⟨f15, fd15, D15⟩ := def_mk (ps := ["_law_kind", "_law_n"]) X G d15 fun _ _ _ _ _ _ us hl => match us, hl with | [_, _], _ => rfl
  obtain ⟨f16, fd16, D16⟩ := def_mk (ps := ["_law_fields", "_law_draws_here", "_law_start"]) X G d16 fun _ _ _ _ _ _ us hl => match us, hl with | [_, _, _], _ => rfl
  obtain ⟨f17, fd17, D17⟩ := def_mk (ps := ["_law_schema_here", "_law_n"]) X G d17 fun _ _ _ _ _ _ us hl => match us, hl with | [_, _], _ => rfl
  obtain ⟨f18, fd18, D18⟩ := def_mk (ps := ["_law_schema_here"]) X G d18 fun _ _ _ _ _ _ us hl => match us, hl with | [_], _ => rfl
  exact ⟨PySem.W.fnOf "law" "law" (defArgs sLaw) (defBody sLaw) (defScope sLaw) .none kV4 dc4 pm4 an4 cd4 ct4, fun s v => .of_eq rfl, fun base _ _ =>
    have Gc : FnOk l.prog w K mg base (L2.CX l.prog w) 5 _ _ ["schema"] (spChk K C) := ok_chk D8 D7 D6 D5 D3 D4 B Cs T
    ok_law F4 D3 (ok_name D3 B Cs) D4 (ok_unl D4 B) D13 (ok_sam D13 B 6) D8 Gc D10 (ok_row D10 D2 D0 D1 B Cs) D18 (ok_ref D18 D8 Gc B T R)
      D17 (ok_bad D17 B) D14 (ok_sch D14 B) D12 (ok_drw D12 B) D16 (ok_lrow D16 D15 B) D9 (ok_cof D9) D11 (ok_pla D11 B) B⟩
theorem walk {l : PySem.W.OpenLaw} {q : Program} {loose : List Str} {XP : (Str → Option Value) → Heap → Prop} {YP : World → Heap → Prop} {d : DefRec} {K : Params → PySem.W.Frag} (hn : l.most = some 63) (hdf : d.params.defaults = [])
    (hY : ∀ (w : World) (h : Heap), YP w h → (K w.params).In h)
    (F : ∀ (w : World) (mg : Str → Option Value) (fa : Addr) (h : Heap), (K w.params).In h → h.Ns mainGlobals mg → mg d.name = some (.ref fa) →
      ∃ fd : FuncData, (∀ (s : Shared) (u : Value), BindsTo s fd ⟨[u], []⟩ [("_law_script", u)]) ∧ ∀ base : Heap, (K w.params).In base → base.Ns mainGlobals mg → FnOk l.prog w (K w.params) mg base CX0 7 fa fd ["_law_script"] (spLaw (K w.params))) :
    PySem.W.WalkO q loose XP YP l.row.toRowW d [] (fun f vs => PySem.call f vs) :=
  L2.walk_of (n := 63) (k := 7) (x := "_law_script") (CX := fun _ => CX0) (sp := fun w => spLaw (K w.params)) hn (by decide) hdf ⟨rfl, by decide, by decide⟩ hY F (fun _ _ a ns hl _ hS => ⟨a, ns, rfl, hS, hl, fun _ => rfl⟩) fun _ _ _ _ _ z => z
end K43
open PySem PySem.W PyProof.Rows
set_option maxRecDepth 100000 in
set_option maxHeartbeats 0 in
theorem PySem.Challenge.cw_askedthen_k43_schemas_and_rows_holds : PySem.Challenge.rw_askedthen_k43_schemas_and_rows.Holds := by
  w_on; o_law; k_head; (case hw => w_witness2)
  k_fill
  refine K43.walk (l := PySem.Challenge.rw_askedthen_k43_schemas_and_rows) rfl rfl (fun w h Y => PySem.W.kIn_of Y) ?F
  case F =>
    intro w mg fa h KX G hmg
    refine' K43.all_mk KX G hmg ?d0 ?d1 ?d2 ?d3 ?d4 ?d5 ?d6 ?d7 ?d8 ?d9 ?d10 ?d11 ?d12 ?d13 ?d14 ?d15 ?d16 ?d17 ?d18 ?dl ?c_num ?c_txt ?c_tab ?c_col ?c_nam ?c_ltr ?b_isi ?b_int ?b_bool ?b_str ?b_tuple ?b_list ?b_len ?b_all ?b_set ?b_range ?b_enumerate ?aC ?aA ?aB ?xL ?hbm ?sa ?noN ?iC ?tI ?kC ?exC ?tyC ?lI ?cI ?lc ?hvs ?hfile ?lcc ?sup ?sb ?ms ?op ?su ?tp ?ga ?gg ?hdC ?eha ?ehn ?eht ?ehm ?nA ?iA ?tA ?sA ?nB ?iB ?tB ?sB ?sC
    (case d0 => (refine' K43.is_def ?a ?l ?c ?k; (case a => k_is); (case l => k_is); (case c => k_is); (case k => k_is)))
    (case d1 => (refine' K43.is_def ?a ?l ?c ?k; (case a => k_is); (case l => k_is); (case c => k_is); (case k => k_is)))
    (case d2 => (refine' K43.is_def ?a ?l ?c ?k; (case a => k_is); (case l => k_is); (case c => k_is); (case k => k_is)))
    (case d3 => (refine' K43.is_def ?a ?l ?c ?k; (case a => k_is); (case l => k_is); (case c => k_is); (case k => k_is)))
    (case d4 => (refine' K43.is_def ?a ?l ?c ?k; (case a => k_is); (case l => k_is); (case c => k_is); (case k => k_is)))
    (case d5 => (refine' K43.is_def ?a ?l ?c ?k; (case a => k_is); (case l => k_is); (case c => k_is); (case k => k_is)))
    (case d6 => (refine' K43.is_def ?a ?l ?c ?k; (case a => k_is); (case l => k_is); (case c => k_is); (case k => k_is)))
    (case d7 => (refine' K43.is_def ?a ?l ?c ?k; (case a => k_is); (case l => k_is); (case c => k_is); (case k => k_is)))
    (case d8 => (refine' K43.is_def ?a ?l ?c ?k; (case a => k_is); (case l => k_is); (case c => k_is); (case k => k_is)))
    (case d9 => (refine' K43.is_def ?a ?l ?c ?k; (case a => k_is); (case l => k_is); (case c => k_is); (case k => k_is)))
    (case d10 => (refine' K43.is_def ?a ?l ?c ?k; (case a => k_is); (case l => k_is); (case c => k_is); (case k => k_is)))
    (case d11 => (refine' K43.is_def ?a ?l ?c ?k; (case a => k_is); (case l => k_is); (case c => k_is); (case k => k_is)))
    (case d12 => (refine' K43.is_def ?a ?l ?c ?k; (case a => k_is); (case l => k_is); (case c => k_is); (case k => k_is)))
    (case d13 => (refine' K43.is_def ?a ?l ?c ?k; (case a => k_is); (case l => k_is); (case c => k_is); (case k => k_is)))
    (case d14 => (refine' K43.is_def ?a ?l ?c ?k; (case a => k_is); (case l => k_is); (case c => k_is); (case k => k_is)))
    (case d15 => (refine' K43.is_def ?a ?l ?c ?k; (case a => k_is); (case l => k_is); (case c => k_is); (case k => k_is)))
    (case d16 => (refine' K43.is_def ?a ?l ?c ?k; (case a => k_is); (case l => k_is); (case c => k_is); (case k => k_is)))
    (case d17 => (refine' K43.is_def ?a ?l ?c ?k; (case a => k_is); (case l => k_is); (case c => k_is); (case k => k_is)))
    (case d18 => (refine' K43.is_def ?a ?l ?c ?k; (case a => k_is); (case l => k_is); (case c => k_is); (case k => k_is)))
    (case dl => (refine' K43.is_def ?a ?l ?c ?k; (case a => k_is); (case l => k_is); (case c => k_is); (case k => k_is)))
    (case c_num => (refine' K43.is_int ?zz; (case zz => k_is)))
    (case c_txt => (refine' K43.is_int ?zz; (case zz => k_is)))
    (case c_tab => (refine' K43.is_int ?zz; (case zz => k_is)))
    (case c_col => (refine' K43.is_int ?zz; (case zz => k_is)))
    (case c_nam => (refine' K43.is_int ?zz; (case zz => k_is)))
    (case c_ltr => (refine' K43.is_str ?zz; (case zz => k_is)))
    (case b_isi => k_is)
    (case b_int => k_is)
    (case b_bool => k_is)
    (case b_str => k_is)
    (case b_tuple => k_is)
    (case b_list => k_is)
    (case b_len => k_is)
    (case b_all => k_is)
    (case b_set => k_is)
    (case b_range => k_is)
    (case b_enumerate => k_is)
    (case aC => k_is)
    (case aA => k_is)
    (case aB => k_is)
    (case xL => k_is)
    (case hbm => first | decide +kernel | kernel_rfl)
    (case sa => k_is)
    (case noN => k_is)
    (case iC => k_is)
    (case tI => k_is)
    (case kC => k_is)
    (case exC => k_is)
    (case tyC => k_is)
    (case lI => k_is)
    (case cI => k_is)
    (case lc => k_is)
    (case hvs => rfl)
    (case hfile => first | rfl | kernel_rfl)
    (case lcc => k_is)
    (case sup => ks_is)
    (case sb => k_is)
    (case ms => k_is)
    (case op => k_is)
    (case su => k_is)
    (case tp => first | rfl | kernel_rfl)
    (case ga => k_is)
    (case gg => k_is)
    (case hdC => k_is)
    (case eha => k_is)
    (case ehn => k_is)
    (case eht => k_is)
    (case ehm => k_is)
    (case nA => decide)
    (case iA => k_is)
    (case tA => k_is)
    (case sA => k_is)
    (case nB => decide)
    (case iB => k_is)
    (case tB => k_is)
    (case sB => k_is)
    (case sC => k_is)
