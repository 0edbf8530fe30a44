import PyProof.Rows.All
import HandS.ForMost
import HandS.ForExc
import HandS.Wide
import HandS.Flow
import HandS.IsInst
import HandS.TupAny
import HandS.Zip
import HandS.Deep
import HandS.TupLe
import HandS.TupMul
import HandS.SortInts
import HandS.Gcd
import HandS.Conv
import HandS.Rev
import HandS.Style
import KE.KTupSum
import KE.DataMinMax
import HandS.ExcInit
import HandS.ExcField
import HandS.ExcIs
import HandS.ExcOwn
import KE.KExcSuper
import KE.RegKSuper
import KE.KExcIs
import HandS.SetFor
import KE.SortData
import HandS.NamedTupSort
import KE.KIndexOf
import HandS.NoneIn
import PySem.Challenge.RW_nogapmissed_k32_covers
set_option Elab.async false
set_option linter.all false
set_option maxRecDepth 100000
/-! GM: what the hand layer lacks: sum, max, min of tuples, tuple * int of any sign but 0, enumerate over tuples -/
namespace GM
open PySem PySem.Spec PyProof.Rows L2
open Sem (wp)
section
variable {prog : Program} {w : World} {A : Around} {E : Value → Shared → Prop} {s : Shared} {l : Addr} {xs : Array (Int × Tok)} {its : List Value} {ns : List Int}
theorem tup_intT {Q : Value → Shared → Prop} (hl : s.heap.IsTuple l (intItems xs))
    (h : ∀ s₂ : Shared, s₂ = { s with heap := s.heap.push { cls := .type "tuple_iterator", data := .fields #[.ref l, .int 0 0] } } →
      (s₂.heap.IsTupleIter s.heap.objs.size l 0 ∧ s₂.heap.IsTuple l (intItems xs)) → (∀ b ∈ [s.heap.objs.size, l], b < s₂.heap.objs.size) → l ≠ s.heap.objs.size → Q (.ref s.heap.objs.size) s₂) :
    wpAny (model prog w) A (pyIter (.ref l)) Q E s := by
  have hlt : l < s.heap.objs.size := by obtain ⟨_, e, _⟩ := hl; exact Heap.lt_size e
  refine wpAny_pyIter_tuple hl (h _ rfl ⟨⟨_, Heap.get?_push_size _ rfl, rfl, rfl⟩, hl.push _⟩ (fun b hb => ?_) (Nat.ne_of_lt hlt))
  show b < (s.heap.push _).objs.size
  rw [Heap.size_push]
  rcases List.mem_cons.mp hb with rfl | hb
  · exact Nat.lt_succ_self _
  · rcases List.mem_cons.mp hb with rfl | hb
    · exact Nat.lt_succ_of_lt hlt
    · cases hb
theorem tup_kept {h' : Heap} {ob : Obj} (hk : ∀ b o, b ∉ [s.heap.objs.size] → (s.heap.push ob).get? b = some o → h'.get? b = some o) :
    ∀ b o, s.heap.get? b = some o → h'.get? b = some o := fun b o e => by
  refine hk b o (fun hm => ?_) (Heap.get?_push_of_some _ e)
  rcases List.mem_cons.mp hm with e1 | hm
  · exact absurd (e1 ▸ Heap.lt_size e) (Nat.lt_irrefl _)
  · cases hm
theorem max_tupG {Q : Value → Shared → Prop} (hh : A.handled = none) (hl : s.heap.IsTuple l (intItems xs)) (hne : 0 < xs.size)
    (h : ∀ v h' tk, (intItems xs)[argBest (fun i j => decide (numAt xs i > numAt xs j)) (xs.size - 1)]? = some v → (∀ b o, s.heap.get? b = some o → h'.get? b = some o) → Q v { s with heap := h', toks := tk }) :
    wpAny (model prog w) A (call (.builtin "max") [.ref l]) Q E s := by
  refine call_max_walk (tup_intT hl fun s₂ e st hfp hlI => ?_)
  subst e
  refine ⟨_, _, _, _, _, _, _, rfl, Walks.tuple (A := A.in1) hh _ l hlI (intItems xs), st, hfp, by simpa [intItems] using hne, CmpOf.ints_gt (numAt xs) (fun _ _ => intItems_at), fun v h' tk hP hk => ?_⟩
  exact h v h' tk (by simpa [intItems] using hP) (tup_kept hk)
theorem min_tupG {Q : Value → Shared → Prop} (hh : A.handled = none) (hl : s.heap.IsTuple l (intItems xs)) (hne : 0 < xs.size)
    (h : ∀ v h' tk, (intItems xs)[argBest (fun i j => decide (numAt xs i < numAt xs j)) (xs.size - 1)]? = some v → (∀ b o, s.heap.get? b = some o → h'.get? b = some o) → Q v { s with heap := h', toks := tk }) :
    wpAny (model prog w) A (call (.builtin "min") [.ref l]) Q E s := by
  refine call_min_walk (tup_intT hl fun s₂ e st hfp hlI => ?_)
  subst e
  refine ⟨_, _, _, _, _, _, _, rfl, Walks.tuple (A := A.in1) hh _ l hlI (intItems xs), st, hfp, by simpa [intItems] using hne, CmpOf.ints_lt (numAt xs) (fun _ _ => intItems_at), fun v h' tk hP hk => ?_⟩
  exact h v h' tk (by simpa [intItems] using hP) (tup_kept hk)
theorem sum_rawT {Q : Value → Shared → Prop} (hh : A.handled = none) (hl : s.heap.IsTuple l its.toArray) (hi : IntsAre its ns)
    (h : ∀ h' tk t', (∀ b o, s.heap.get? b = some o → h'.get? b = some o) → Q (.int ns.sum t') { s with heap := h', toks := tk }) : wpAny (model prog w) A (call (.builtin "sum") [.ref l]) Q E s := by
  obtain ⟨xs, e⟩ := hi.allInts.items
  have hn : numsOf (intItems xs).toList = ns := by rw [← e]; exact hi.numsOf
  rw [nums_intItems] at hn
  rw [e] at hl
  refine PySem.W.ktm_sumG hh hl fun h' tk t' hk => ?_
  have := h h' tk t' hk
  rw [preSum_eq, List.take_of_length_le (by simp), hn]; exact this
theorem max_rawT {Q : Value → Shared → Prop} (hh : A.handled = none) (hl : s.heap.IsTuple l its.toArray) (hi : IntsAre its ns) (hne : 0 < ns.length)
    (h : ∀ h' tk M t', (∀ b o, s.heap.get? b = some o → h'.get? b = some o) → M ∈ ns → (∀ a, a ∈ ns → a ≤ M) → Q (.int M t') { s with heap := h', toks := tk }) : wpAny (model prog w) A (call (.builtin "max") [.ref l]) Q E s := by
  obtain ⟨xs, e⟩ := hi.allInts.items
  have hn : numsOf (intItems xs).toList = ns := by rw [← e]; exact hi.numsOf
  rw [nums_intItems] at hn
  subst hn
  rw [e] at hl
  have hsz : 0 < xs.size := by simpa using hne
  refine max_tupG hh hl hsz fun v h' tk hv hk => ?_
  obtain ⟨t, rfl⟩ := intItems_at hv
  obtain ⟨h1, h2⟩ := argBest_gt (numAt xs) (xs.size - 1)
  refine h h' tk _ t hk ?_ fun a ha => ?_
  · rw [numAt_eq]; exact PySem.getD_mem (by rw [List.length_map, Array.length_toList]; omega)
  · obtain ⟨j, hj, rfl⟩ := mem_getD ha
    rw [List.length_map, Array.length_toList] at hj
    rw [← numAt_eq]; exact h2 j (by omega)
theorem min_rawT {Q : Value → Shared → Prop} (hh : A.handled = none) (hl : s.heap.IsTuple l its.toArray) (hi : IntsAre its ns) (hne : 0 < ns.length)
    (h : ∀ h' tk M t', (∀ b o, s.heap.get? b = some o → h'.get? b = some o) → M ∈ ns → (∀ a, a ∈ ns → M ≤ a) → Q (.int M t') { s with heap := h', toks := tk }) : wpAny (model prog w) A (call (.builtin "min") [.ref l]) Q E s := by
  obtain ⟨xs, e⟩ := hi.allInts.items
  have hn : numsOf (intItems xs).toList = ns := by rw [← e]; exact hi.numsOf
  rw [nums_intItems] at hn
  subst hn
  rw [e] at hl
  have hsz : 0 < xs.size := by simpa using hne
  refine min_tupG hh hl hsz fun v h' tk hv hk => ?_
  obtain ⟨t, rfl⟩ := intItems_at hv
  obtain ⟨h1, h2⟩ := argBest_lt (numAt xs) (xs.size - 1)
  refine h h' tk _ t hk ?_ fun a ha => ?_
  · rw [numAt_eq]; exact PySem.getD_mem (by rw [List.length_map, Array.length_toList]; omega)
  · obtain ⟨j, hj, rfl⟩ := mem_getD ha
    rw [List.length_map, Array.length_toList] at hj
    rw [← numAt_eq]; exact h2 j (by omega)
end
section
variable {X : Cx}
def rSumT (K : PySem.W.Frag) : List V → Hp → VK → Prop := fun vs H Q => ∃ (a : Addr) (ns : List Int), vs = [V.ref a] ∧ SqT K H a (ns.map V.int) ∧ Q (.int ns.sum) H
def rMaxT (K : PySem.W.Frag) : List V → Hp → VK → Prop := fun vs H Q => ∃ (a : Addr) (ns : List Int), vs = [V.ref a] ∧ SqT K H a (ns.map V.int) ∧ 0 < ns.length ∧ ∀ m, m ∈ ns → (∀ y, y ∈ ns → y ≤ m) → Q (.int m) H
def rMinT (K : PySem.W.Frag) : List V → Hp → VK → Prop := fun vs H Q => ∃ (a : Addr) (ns : List Int), vs = [V.ref a] ∧ SqT K H a (ns.map V.int) ∧ 0 < ns.length ∧ ∀ m, m ∈ ns → (∀ y, y ∈ ns → m ≤ y) → Q (.int m) H
theorem cr_sumT (hc : X.calm = true) : CallR X (.builtin "sum") (rSumT X.K) := by
  intro pins s σ H vs us Q I r h
  obtain ⟨a, ns, rfl, hs, q⟩ := h
  obtain ⟨its, rv, hl, _⟩ := I.tuple hs
  rw [Vals.ref1 r]
  exact sum_rawT (I.ok.hd hc) hl rv.ints fun h' tk t' hk => ⟨.int _, H, I.kept hk, ⟨_, rfl⟩, q⟩
theorem cr_maxT (hc : X.calm = true) : CallR X (.builtin "max") (rMaxT X.K) := by
  intro pins s σ H vs us Q I r h
  obtain ⟨a, ns, rfl, hs, hne, q⟩ := h
  obtain ⟨its, rv, hl, _⟩ := I.tuple hs
  rw [Vals.ref1 r]
  exact max_rawT (I.ok.hd hc) hl rv.ints hne fun h' tk m t' hk h1 h2 => ⟨.int _, H, I.kept hk, ⟨_, rfl⟩, q m h1 h2⟩
theorem cr_minT (hc : X.calm = true) : CallR X (.builtin "min") (rMinT X.K) := by
  intro pins s σ H vs us Q I r h
  obtain ⟨a, ns, rfl, hs, hne, q⟩ := h
  obtain ⟨its, rv, hl, _⟩ := I.tuple hs
  rw [Vals.ref1 r]
  exact min_rawT (I.ok.hd hc) hl rv.ints hne fun h' tk m t' hk h1 h2 => ⟨.int _, H, I.kept hk, ⟨_, rfl⟩, q m h1 h2⟩
/-! tuple * 1, () * n -/
theorem tuple_mul1 (l : Addr) (items : Array Value) (n : Nat) (dd : Option Addr) (sl : Array (Option Value)) (x : Int) (u : Tok) (c0 : (decide (x < -(2 ^ 63)) || decide (x ≥ 2 ^ 63)) = false) (c1 : (items.isEmpty || x == 1) = true) :
    Meets (Builtin.«tuple.__mul__» ⟨[.ref l, .int x u], []⟩) (fun _ R s => s.heap.get? l = some { cls := .type "tuple", dict := dd, data := .seq items n, slots := sl } ∧ R (.ok (.ret (.ref l))) s) :=
  .of_wp fun prog w A R s h => by
    obtain ⟨hp, g, d, tk, os⟩ := s
    obtain ⟨hl, h⟩ := h
    have f1 := AutoSeq1.idx_int
    wp_walk using AutoSeq1.wpAny_loadPart' hl
    repeat (first
      | (refine wpAny_ite_false (decide_eq_false (by rw [c0]; exact Bool.false_ne_true)) ?_; wp_walk using AutoSeq1.wpAny_loadPart' hl)
      | (refine wpAny_ite_true (decide_eq_true c1) ?_; wp_walk using AutoSeq1.wpAny_loadPart' hl))
    exact ⟨_, rfl, h⟩
def rRep1 (K : PySem.W.Frag) : R2 := fun x y H Q => ∃ l k xs, x = .ref l ∧ y = .int k ∧ SqT K H l xs ∧ (xs = [] ∨ k = 1) ∧ -1000000 ≤ k ∧ k ≤ 1000000 ∧ Q (.ref l) H
theorem op_rep1 : OpR X (binaryOp .Mult) (rRep1 X.K) := by
  intro pins s σ H x y v u Q I rx ry h
  obtain ⟨l, k, xs, rfl, rfl, hT, he, h1, h2, q⟩ := h
  cases rx
  obtain ⟨t, rfl⟩ := ry
  obtain ⟨its, r, ⟨⟨cls, dd, data, sl⟩, ho, hc, n, hd⟩, hs⟩ := I.tuple hT
  simp only at hc hd
  subst hc hd
  have hle : its.length = xs.length := r.length.symm
  have c0 : (decide (k < -(2 ^ 63)) || decide (k ≥ 2 ^ 63)) = false := by
    rw [decide_eq_false (by omega), decide_eq_false (by omega)] <;> rfl
  have c1 : (its.toArray.isEmpty || k == 1) = true := by
    rcases he with he | he
    · have : its = [] := List.eq_nil_of_length_eq_zero (by rw [hle, he]; rfl)
      subst this; rfl
    · subst he; simp
  exact wpAny_binaryOp_repeat_ref (T := "tuple") (U := "int") (by decide) ⟨_, ho, rfl⟩ (fun s' => typeIs_int s' k t) noFill_tuple_mul F.fills_int_mul F.slot_int_rmul repeat_tuple F.slot_int_index.lookup
    (call_meets F.slot_int_rmul (typeIs_int s k t) F.entry_int_rmul (F.args_int_rmul_2 _ _) (int_rmul_tuple k t l its.toArray n dd sl)
      ⟨ho, rfl, ⟨_, ho, rfl⟩, call_meets F.slot_tuple_mul ⟨_, ho, rfl⟩ F.entry_tuple_mul (F.args_tuple_mul_2 _ _) (tuple_mul1 l its.toArray n dd sl k t c0 c1) ⟨ho, ⟨.ref l, H, I, rfl, q⟩⟩⟩)
end
/-! enumerate over a tuple -/
section
variable {prog : Program} {w : World} {A : Around} {E : Value → Shared → Prop} {s : Shared}
theorem nextOf_tup_item {it t : Addr} {i : Nat} {items} {x : Value} {Q : Value → Shared → Prop} (hit : s.heap.IsTupleIter it t i)
    (hl : s.heap.IsTuple t items) (hx : items[i]? = some x)
    (hQ : ∀ h', h'.IsTupleIter it t (i + 1) → Heap.SameBut it s.heap h' → Q x { s with heap := h' }) :
    wpAny (model prog w) A (Builtin.SmallTypes.nextOf (.ref it)) Q E s := by
  obtain ⟨o, ho, hc, hd⟩ := id hit
  obtain ⟨ol, hol, _, nl, hdl⟩ := hl
  unfold Builtin.SmallTypes.nextOf
  refine wpAny_bind (wpAny_callSpecial?_slot (name := Str.ofString "__next__") hit.typeIs F.slot_tuple_iterator_next
    (wpAny_call_entry F.slot_tuple_iterator_next hit.typeIs F.entry_tuple_iterator_next ?_ (F.args_tuple_iterator_next_1 _)))
  show wpAny _ _ (field (.ref it) 0 >>= _) _ _ s
  refine wpAny_bind (wpAny_field ho hd (x := .ref t) rfl ?_)
  show wpAny _ _ (if (Value.ref t == Value.none) = true then _ else _) _ _ s
  rw [if_neg (show ¬ ((Value.ref t == Value.none) = true) from Bool.false_ne_true)]
  show wpAny _ _ (field (.ref it) 1 >>= _) _ _ s
  refine wpAny_bind (wpAny_field ho hd (x := .int i 0) rfl ?_)
  show wpAny _ _ (seqItems? (.ref t) >>= _) _ _ s
  refine wpAny_bind (wpAny_seqItems hol hdl ?_)
  simp only [Int.toNat_natCast, hx]
  refine wpAny_bind (wpAny_setField ho hd (by simp) (wpAny_pure ⟨x, rfl, wpAny_pure (hQ _ ?_ (Heap.SameBut.update ..))⟩))
  exact ⟨_, Heap.get?_update_self _ ho (Obj.isFreed_of_fields (Obj.data_mapFields hd _)), (Obj.cls_mapFields ..).trans hc, by
    rw [Obj.data_mapFields hd]; simp [rawInt]⟩
theorem nextOf_tup_end {it t : Addr} {i : Nat} {items} {Q : Value → Shared → Prop} (hh : A.handled = none)
    (hit : s.heap.IsTupleIter it t i) (hl : s.heap.IsTuple t items) (hx : items[i]? = none)
    (hE : ∀ h' e, Heap.ExtBut it s.heap h' → (∃ o, h'.get? e = some o ∧ o.cls = .type "StopIteration") → E (.ref e) { s with heap := h' }) :
    wpAny (model prog w) A (Builtin.SmallTypes.nextOf (.ref it)) Q E s := by
  obtain ⟨o, ho, hc, hd⟩ := id hit
  obtain ⟨ol, hol, _, nl, hdl⟩ := hl
  unfold Builtin.SmallTypes.nextOf
  refine wpAny_bind (wpAny_callSpecial?_slot (name := Str.ofString "__next__") hit.typeIs F.slot_tuple_iterator_next
    (wpAny_call_entry F.slot_tuple_iterator_next hit.typeIs F.entry_tuple_iterator_next ?_ (F.args_tuple_iterator_next_1 _)))
  show wpAny _ _ (field (.ref it) 0 >>= _) _ _ s
  refine wpAny_bind (wpAny_field ho hd (x := .ref t) rfl ?_)
  show wpAny _ _ (if (Value.ref t == Value.none) = true then _ else _) _ _ s
  rw [if_neg (show ¬ ((Value.ref t == Value.none) = true) from Bool.false_ne_true)]
  show wpAny _ _ (field (.ref it) 1 >>= _) _ _ s
  refine wpAny_bind (wpAny_field ho hd (x := .int i 0) rfl ?_)
  show wpAny _ _ (seqItems? (.ref t) >>= _) _ _ s
  refine wpAny_bind (wpAny_seqItems hol hdl ?_)
  simp only [Int.toNat_natCast, hx]
  refine wpAny_bind (wpAny_rule (wpAny_bind (wpAny_setField ho hd (by simp) ?_)))
  show wpAny _ _ (newExc (.type "StopIteration") [] >>= _) _ _ _
  refine wpAny_bind ?_
  simp only [newExc, newTuple]
  refine wpAny_bind (wpAny_newObj_type ?_ (by size_fits))
  refine wpAny_bind (m := firstArgMember _ _) (wpAny_of_eq (a := Value.none) (by first | rfl | (simp only [firstArgMember]; rfl)) ?_)
  refine wpAny_newObj_type ?_ (by size_fits)
  simp only [raiseNew]
  refine wpAny_bind (wpAny_handled ?_)
  first | rw [show A.in1.handled = none from hh] | rw [hh]
  refine wpAny_bind (wpAny_pure (wpAny_throw ?_))
  exact hE _ _ (((Heap.SameBut.update ..).extBut.push _).push _) ⟨_, Heap.get?_push_size _ rfl, rfl⟩
theorem drawsT {prog : Program} {w : World} {A : Around} (hh : A.handled = none) (it l : Addr) (hne : l ≠ it) (items : Array Value) :
    Draws prog w A it [it, l] items.size (fun i v => items[i]? = some v) (fun i h => h.IsTupleIter it l i ∧ h.IsTuple l items) where
  live := fun _ _ st => let ⟨o, ho, _⟩ := st.1; ⟨o, ho⟩
  frame := fun _ _ _ st hk => ⟨st.1.at fun o e => hk it (by simp) o e, st.2.at fun o e => hk l (by simp) o e⟩
  item := fun i s Q E hi st hQ => by
    refine nextOf_tup_item st.1 st.2 (x := items[i]) (by simp [hi]) fun h' hit' hs' => ?_
    exact hQ _ h' s.toks (by simp [hi]) ⟨hit', st.2.extBut hs'.extBut hne⟩ hs'
  done := fun s Q E st hE => nextOf_tup_end hh st.1 st.2 (by simp) hE
theorem enum_newT (l : Addr) (items : Array Value) (n : Nat) (dct : Option Addr) (sl : Array (Option Value)) :
    Meets (Builtin.«enumerate.__new__» ⟨[.type "enumerate", .ref l], []⟩) (fun _ R s => s.heap.get? l = some { cls := .type "tuple", dict := dct, data := .seq items n, slots := sl } ∧
      R (.ok (.ret (.ref (s.heap.push { cls := .type "tuple_iterator", data := .fields #[.ref l, .int 0 0] }).objs.size)))
        { s with heap := (s.heap.push { cls := .type "tuple_iterator", data := .fields #[.ref l, .int 0 0] }).push { cls := .type "enumerate", data := .fields #[.none, .bool false, .ref s.heap.objs.size, rawInt 0, .none, .none] } }) :=
  .of_wp fun prog w A R s h => by
    obtain ⟨hp, g, d, tk, os⟩ := s; obtain ⟨hl, h⟩ := h
    have hsub := sub_enumerate
    have hL : Heap.IsTuple (Shared.heap ⟨hp, g, d, tk, os⟩) l items := ⟨_, hl, rfl, n, rfl⟩
    wp_walk using AutoSeq1.wpAny_loadPart' hl
    refine wpAny_stack_any fun st => wpAny_pure ?_
    split
    · rename_i c _ _ _ _ _
      cases (c == Value.type "enumerate")
      · wp_walk using AutoSeq1.wpAny_loadPart' hl, wpAny_pyIter_tuple hL
        exact ⟨_, rfl, h⟩
      · wp_walk using AutoSeq1.wpAny_loadPart' hl, wpAny_pyIter_tuple hL
        exact ⟨_, rfl, h⟩
    · wp_walk using AutoSeq1.wpAny_loadPart' hl, wpAny_pyIter_tuple hL
      exact ⟨_, rfl, h⟩
theorem call_enumT {l : Addr} {items : Array Value} {Q : Value → Shared → Prop} (hL : s.heap.IsTuple l items)
    (h : ∀ h', IsEnum h' (s.heap.objs.size + 1) s.heap.objs.size 0 .none → h'.IsTupleIter s.heap.objs.size l 0 → h'.objs.size = s.heap.objs.size + 2 →
      (∀ b o, s.heap.get? b = some o → h'.get? b = some o) → Q (.ref (s.heap.objs.size + 1)) { s with heap := h' }) :
    wpAny (model prog w) A (call (.type "enumerate") [.ref l]) Q E s := by
  obtain ⟨⟨c, dct, dt, sl⟩, hl, hc, n, hd⟩ := hL
  replace hc : c = .type "tuple" := hc
  replace hd : dt = .seq items n := hd
  subst hc hd
  refine callType_new F.called_enumerate (by decide) (F.typeCall_enumerate_1 _) (F.newCall_enumerate_1 _) (fun obj => F.args_object_init_2 obj _) F.entry_enumerate_new
    (enum_newT l items n dct sl) ⟨hl, ?_⟩
  have hz : (s.heap.push { cls := .type "tuple_iterator", data := .fields #[.ref l, .int 0 0] }).objs.size = s.heap.objs.size + 1 := Heap.size_push ..
  show _ ∧ _
  rw [hz]
  have he : IsEnum ((s.heap.push { cls := .type "tuple_iterator", data := .fields #[.ref l, .int 0 0] }).push
      { cls := .type "enumerate", data := .fields #[.none, .bool false, .ref s.heap.objs.size, rawInt 0, .none, .none] }) (s.heap.objs.size + 1) s.heap.objs.size 0 .none := by
    have := Heap.get?_push_size (s.heap.push { cls := .type "tuple_iterator", data := .fields #[.ref l, .int 0 0] })
      (o := { cls := .type "enumerate", data := .fields #[.none, .bool false, .ref s.heap.objs.size, rawInt 0, .none, .none] }) rfl
    rw [hz] at this; exact this
  refine ⟨⟨_, he, rfl⟩, h _ he ⟨_, Heap.get?_push_of_some _ (Heap.get?_push_size _ rfl), rfl, rfl⟩ (by rw [Heap.size_push, hz]) fun b o x => Heap.get?_push_of_some _ (Heap.get?_push_of_some _ x)⟩
end
/-- the tuple at a as it stands at each turn, each item in a new pair -/
def IteT (K : PySem.W.Frag) (a : Addr) : It :=
  ⟨fun i H => ∃ (xs : List V) (x : V), SqT K H a xs ∧ xs[i]? = some x, fun i H v H' => ∃ T x, v = .ref T ∧ H T = none ∧ H' = upd H T (.tup [.int (i : Nat), x]) ∧ ∀ xs, SqT K H a xs → xs[i]? = some x, fun i H => ∃ xs : List V, SqT K H a xs ∧ xs.length ≤ i⟩
theorem turn_enumT {P : Program} {w : World} {K : PySem.W.Frag} {elts : List Expr} {kk : Nat} {tpos : Pos} (a e it : Addr) :
    Turn P w K (.Tuple elts kk tpos) (IteT K a) [e, it] e (fun i h => (∃ old, IsEnum h e it ((i : Nat) : Int) old) ∧ h.IsTupleIter it a i ∧ e ≠ it ∧ e ≠ a ∧ a ≠ it) where
  mem := by simp
  obj := fun i h st b hb => by
    obtain ⟨⟨old, he⟩, ⟨o, ho, hc, hd⟩, _⟩ := st
    have e' : b = e ∨ b = it := by simpa using hb
    rcases e' with z | z
    · rw [z]; exact ⟨_, he, fun v q => nomatch q⟩
    · rw [z]; exact ⟨o, ho, fun v q => by rw [hd] at q; cases q⟩
  keep := fun i h h' st k => let ⟨⟨old, he⟩, hi, hne⟩ := st; ⟨⟨old, k e (by simp) _ he⟩, hi.at fun o q => k it (by simp) o q, hne⟩
  item := by
    intro X hP hw hK hc i pins s σ H E I hf st hg
    subst hP hw hK
    obtain ⟨⟨old, he⟩, hit, hne, hea, hai⟩ := st
    obtain ⟨xs, x, hq, hx⟩ := hg
    obtain ⟨its, rv, p, hz⟩ := I.tuple hq
    obtain ⟨u, hu, ru⟩ := rv.get hx
    have hel : e < s.heap.objs.size := Heap.lt_size he
    have hil : it < s.heap.objs.size := by obtain ⟨_, q, _⟩ := hit; exact Heap.lt_size q
    have hul : i < its.toArray.size := by have := (List.getElem?_eq_some_iff.mp hu).1; simpa using this
    refine wpAny_pyNext_enum_itemD (drawsT (A := X.A.in1) (I.ok.hd hc) it a hai its.toArray) he ⟨hit, p⟩ hul hne (by simp [hne, hea]) fun x' h' tk hP ho hst hT hsz hk => ?_
    have ex : x' = u := by
      have h1 : its.toArray[i]? = some x' := hP
      have h2 : its.toArray[i]? = some u := by simpa using hu
      rw [h1] at h2; cases h2; rfl
    subst ex
    have tkle : True := trivial
    refine ⟨_, rfl, wpAny_letOwnedTupleGo_enum (s := { s with heap := h', toks := tk + 1 }) ho fun h'' he' sb => ?_⟩
    have hT2 : h''.get? s.heap.objs.size = some { cls := .type "tuple", data := .seq #[.int i tk, x'] } := (sb.2 _ (Nat.ne_of_gt hel)).trans hT
    have new : ObjOk X.prog X.w (upd H s.heap.objs.size (.tup [.int (i : Nat), x])) h'' s.heap.objs.size (.tup [.int (i : Nat), x]) :=
      ⟨by show 2 ≤ sizeLine; decide, [.int i tk, x'], .cons ⟨_, rfl⟩ (.cons ru .nil), ⟨_, hT2, rfl, _, rfl⟩⟩
    have I1 : Inv X pins σ (upd H s.heap.objs.size (.tup [.int (i : Nat), x])) { s with heap := h'', toks := tk + 1 } :=
      I.turnedNew (ch := [e, it]) (fun b ob hb q => (sb.2 b (fun z => hb (by simp [z]))).trans (hk b ob (fun z => hb (by simp [z])) (fun z => hb (by simp [z])) q)) hf (Nat.le_refl _) new
    refine ⟨.ref s.heap.objs.size, _, I1, rfl, ⟨_, x, rfl, I.hok.fresh (Nat.le_refl _), rfl, fun ys hy => by rw [I.tuple_inj hy hq]; exact hx⟩, ⟨⟨x', ?_⟩, hst.1.at fun o q => (sb.2 it (Ne.symm hne)).trans q, hne, hea, hai⟩, fun b hb => ?_⟩
    · have e1 : ((i + 1 : Nat) : Int) = (i : Int) + 1 := by omega
      rw [e1]; exact he'
    · have hb' : b < s.heap.objs.size := by
        have e' : b = e ∨ b = it := by simpa using hb
        rcases e' with z | z
        · rw [z]; exact hel
        · rw [z]; exact hil
      rw [upd_ne (Nat.ne_of_lt hb')]
      exact (hf b hb).1
  done := by
    intro X hP hw hK hc i pins s σ H E I hf st hg
    subst hP hw hK
    obtain ⟨⟨old, he⟩, hit, hne, hea, hai⟩ := st
    obtain ⟨xs, hq, hx⟩ := hg
    obtain ⟨its, rv, p, hz⟩ := I.tuple hq
    obtain ⟨f0, f1, f2, f3, f4, f5⟩ := hf it (by simp)
    have hl := rv.length
    have hT : s.TypeIs (.ref e) "enumerate" := ⟨_, he, rfl⟩
    unfold pyNext
    refine wpAny_bind (wpAny_attempt (wpAny_callSpecial?_slot (name := Str.ofString "__next__") hT F.slot_enumerate_next
      (wpAny_call_entry F.slot_enumerate_next hT F.entry_enumerate_next ?_ (F.args_enumerate_next_1 _))))
    show wpAny _ _ (field (.ref e) 2 >>= _) _ _ _
    refine wpAny_bind (wpAny_field he rfl (x := .ref it) rfl ?_)
    refine wpAny_bind (nextOf_tup_end (I.ok.hd hc) hit p (by simp; omega) fun h' x he' hx' => ?_)
    obtain ⟨o, ho, hc⟩ := hx'
    refine wpAny_bind (wpAny_isInstance (T := "StopIteration") (b := true) ⟨o, ho, hc⟩ isSubtype_stop ?_)
    exact wpAny_pure ⟨rfl, I.turned (t' := s.toks) (fun b o hb q => he' b o hb q) f0 f1 f3 f4 f5⟩
  self := fun A i s Q E st h => let ⟨⟨_, he⟩, _⟩ := st; wpAny_pyIter_enum he h
/-- enumerate(x), x a list or a tuple -/
def iEnumA (K : PySem.W.Frag) (ta : TA) : TI := fun σ H R => ta σ H fun vs H1 => ∃ a xs, vs = [.ref a] ∧ ((SqL K H1 a xs ∧ R (Ite K a) H1) ∨ (SqT K H1 a xs ∧ R (IteT K a) H1))
theorem pi_enumA {X : Cx} {e : Expr} {ta : TA} {p pos tpos : Pos} {elts : List Expr} {kk : Nat} (hg : Gl X "enumerate") (hm : X.mg "enumerate" = none) (ha : PA X [e] ta) (hs : starEach [e] X.env = [(false, eval e X.env)]) :
    PI X (.Tuple elts kk tpos) (.Call (.Name "enumerate" p) [e] [] pos) (iEnumA X.K ta) := by
  refine ⟨fun pins s σ H R I h => ?_⟩
  refine Call_ (ld_blt I hg hm boot_enumerate (PyProof.Rows.callWith_type1 (thn (ha.run pos pins s σ H _ I h) fun us s1 ⟨vs, H1, I1, r1, q1⟩ => ?_) hs rfl))
  obtain ⟨a, xs, ex, q⟩ := q1
  subst ex
  cases r1 with
  | cons r rr =>
    cases rr
    cases r
    have fp2 : ∀ b ∈ [s1.heap.objs.size + 1, s1.heap.objs.size], FpOk X pins H1 b := fun b hb => by
      have e' : b = s1.heap.objs.size + 1 ∨ b = s1.heap.objs.size := by simpa using hb
      have hle : s1.heap.objs.size ≤ b := by
        rcases e' with z | z
        · rw [z]; exact Nat.le_add_right _ _
        · rw [z]; exact Nat.le_refl _
      exact I1.fpOk hle (I1.hok.fresh hle)
    rcases q with ⟨hq, q⟩ | ⟨hq, q⟩
    · obtain ⟨its, rv, p', hz⟩ := I1.list hq
      refine call_enumerate_list p'.isList fun h' he hit hsz hk => wpAny_pyIter_enum he ?_
      have I2 : Inv X pins σ H1 { s1 with heap := h' } := I1.kept (t' := s1.toks) hk
      exact ⟨s1.heap.objs.size + 1, [s1.heap.objs.size + 1, s1.heap.objs.size], _, _, H1, rfl, I2, turn_enum a (s1.heap.objs.size + 1) s1.heap.objs.size, ⟨⟨.none, he⟩, hit, Nat.succ_ne_self _⟩, fp2, q⟩
    · obtain ⟨its, rv, p', hz⟩ := I1.tuple hq
      have hal : a < s1.heap.objs.size := by obtain ⟨_, z, _⟩ := id p'; exact Heap.lt_size z
      refine call_enumT p' fun h' he hit hsz hk => wpAny_pyIter_enum he ?_
      have I2 : Inv X pins σ H1 { s1 with heap := h' } := I1.kept (t' := s1.toks) hk
      exact ⟨s1.heap.objs.size + 1, [s1.heap.objs.size + 1, s1.heap.objs.size], _, _, H1, rfl, I2, turn_enumT a (s1.heap.objs.size + 1) s1.heap.objs.size, ⟨⟨.none, he⟩, hit, Nat.succ_ne_self _, Nat.ne_of_gt (Nat.lt_succ_of_lt hal), Nat.ne_of_lt hal⟩, fp2, q⟩
end GM

set_option maxRecDepth 100000
set_option maxHeartbeats 2000000
/-! GM: own errors whose __init__ says super().__init__(..) and keeps its fields, at the machine's level -/
namespace GM
namespace EX
open PySem PySem.W PySem.Calls PyProof.Rows PySem.HandSPX
/-! the text of __init__, of one field and of two -/
def iA1 (f : Str) (p1 p2 : Pos) : Arguments := { posonlyargs := [], args := [{ arg := "self", annotation := none, pos := p1 }, { arg := f, annotation := none, pos := p2 }], vararg := none, kwonlyargs := [], kw_defaults := [], kwarg := none, defaults := [] }
def iB1 (f : Str) (q1 q2 q3 q4 q5 q6 r1 r2 r3 r4 q7 : Pos) : List Stmt := [.Expr (.Call (.Attribute (.Call (.Name "super" q1) [] [] q7) "__init__" q2) [.Name f q3] [] q4) q5, .Assign [.Attribute (.Name "self" r1) f r2] (.Name f r3) r4]
def iA2 (f g : Str) (p1 p2 p3 : Pos) : Arguments := { posonlyargs := [], args := [{ arg := "self", annotation := none, pos := p1 }, { arg := f, annotation := none, pos := p2 }, { arg := g, annotation := none, pos := p3 }], vararg := none, kwonlyargs := [], kw_defaults := [], kwarg := none, defaults := [] }
def iB2 (f g : Str) (q1 q2 q3 q4 q5 q6 r1 r2 r3 r4 q7 t1 t2 t3 t4 : Pos) : List Stmt := [.Expr (.Call (.Attribute (.Call (.Name "super" q1) [] [] q7) "__init__" q2) [.Name f q3, .Name g q6] [] q4) q5, .Assign [.Attribute (.Name "self" r1) f r2] (.Name f r3) r4, .Assign [.Attribute (.Name "self" t1) g t2] (.Name g t3) t4]
/-- what the written part says of the error at C, its __init__ at fI -/
structure Txt (prog : Program) (K : Frag) (C fI cc cda : Addr) (fs : List Str) : Prop where
  cls : ∃ nm q N bs bm sn sub ab col dd k0 k1 k2 k3 k5, K.lookup C = some (excClassObj nm q C N bs bm true sn sub ab col dd k0 k1 k2 k3 k5 "ValueError.__new__") ∧ refsVE bm = true
  sa : findIn K (.ref C) "__setattr__" = some (some (.builtin "object.__setattr__"))
  noF : ∀ f ∈ fs, findIn K (.ref C) f = some none
  iC : findIn K (.ref C) "__init__" = some (some (.ref fI))
  tI : typeIn K (.ref fI) = some (.type "function")
  ve : subIn K (.ref C) (.type "ValueError") = some true
  me : mroIn K C (.ref C) = some true
  sup : ks_superIn K C C "__init__" = some (some (.builtin "ValueError.__init__"))
  st : nsIn K cStatics "thirdparty.any" = some none
  cell : ∃ cl cld csl, K.lookup cc = some ⟨cl, cld, .cell (some (.ref C)), csl⟩
  code : ∃ ccl cdd vs ccs file tf, K.lookup cda = some ⟨ccl, cdd, .fields vs, ccs⟩ ∧ vs[2]? = some (.str file tf) ∧ ((prog.main.file : Str) == file) = true
  top : (prog.main.scope.names.lookup ("super" : Str)).isSome = false
/-- the scope of such a text -/
structure ScOk (sc : Scope) (fs : List Str) : Prop where
  kind : sc.kind = .function
  gen : sc.isGenerator = false
  co : sc.isCoroutine = false
  sup : sc.names.lookup ("super" : Str) = some .globalImplicit
  cls : sc.names.lookup ("__class__" : Str) = some .free
  self : sc.names.lookup ("self" : Str) = some .local
  loc : ∀ f ∈ fs, sc.names.lookup f = some .local
  cell : ∀ x ∈ sc.names, x.2 ≠ .cell
abbrev veU (u x : Addr) (h : Heap) : Prop := h.get? u = some (kxs_mw "ValueError.__init__" x)
theorem kept_but {K : Frag} {h h' : Heap} {x : Addr} (X : K.In h) (hx : K.lookup x = none) (k : ∀ b o, b ≠ x → h.get? b = some o → h'.get? b = some o) : K.In h' := fun a o e =>
  k a o (fun z => by rw [z, hx] at e; cases e) (X a o e)
section
variable {prog : Program} {w : World} {A : Around} {E : Value → Shared → Prop} {R : Result → Shared → Prop} {s : Shared} {K : Frag} {mg mb : Str → Option Value} {C fI cc cda : Addr} {fs : List Str}
theorem clsK (T : Txt prog K C fI cc cda fs) : ∃ cd, clsIn K C = some cd ∧ refsVE cd.mro = true ∧ cd.hasDict = true := by
  obtain ⟨nm, q, N, bs, bm, sn, sub, ab, col, dd, k0, k1, k2, k3, k5, hC, hbm⟩ := T.cls
  refine ⟨{ name := nm, bases := bs, mro := .ref C :: bm, ns := N, qualname := q, hasDict := true, slotNames := sn, subclasses := sub, abstract := ab, collection := col, hasDel := false }, ?_, hbm, rfl⟩
  unfold clsIn
  rw [hC]
/-- ValueError.__init__(x, ..) by its bound wrapper -/
theorem ve_call {x t0 u : Addr} {rest : List Value} {Q : Value → Shared → Prop} (T : Txt prog K C fI cc cda fs) (X : K.In s.heap) (hx : s.heap.get? x = some (excObj C t0 none .none)) (hu : veU u x s.heap) (hz : rest.length ≤ sizeLine)
    (h : ∀ h' t1, (∀ b o, b ≠ x → s.heap.get? b = some o → h'.get? b = some o) → h'.get? x = some (excObj C t1 none .none) → Q .none { s with heap := h' }) :
    wpAny (model prog w) A (call (.ref u) rest) Q E s := by
  obtain ⟨nm, q, N, bs, bm, sn, sub, ab, col, dd, k0, k1, k2, k3, k5, hC, hbm⟩ := T.cls
  have hC' := X _ _ hC
  have FB := F.excBase_ValueError
  obtain ⟨hh, g, d, tk, os⟩ := s
  refine wpAny_call (codeAny_of_tree ?_)
  show wpAny _ A.in1 (callAny (.ref u) ⟨rest, []⟩) _ _ _
  simp only [callAny]
  refine wpAny_bind (wpAny_load hu ?_)
  simp only [kxs_mw, show (Value.type "method-wrapper" == Value.type "method" || Value.type "method-wrapper" == Value.type "builtin_function_or_method" || Value.type "method-wrapper" == Value.type "method-wrapper") = true by decide, if_true]
  refine KFB.if_so (by decide) ?_
  refine wpAny_bind (check_bound_init FB.toExcCallFacts hC' hx rfl ?_)
  refine wpAny_bind (wpAny_pure (wpAny_pure ?_))
  refine ⟨plainId_quiet FB.init.plain _, codeAny_builtin FB.initEntry ?_⟩
  exact exc_init_tree (cls := .ref C) (t0 := t0) (dv := none) (c2 := .none) (c3 := .none) (b4 := .bool false) hx hz fun h' k e' t' => h h' _ k e'
/-- super() in such an __init__ -/
theorem sup_node {body : List Stmt} {q : Str} {scope : Scope} {p0 p1 : Pos} {whole : Sem Value} {params : Arguments} {ar : Arg} {x : Addr} {ox : Obj} {oc dV kV doc pm ct : Value} {od an : Option Addr} {osl : Array (Option Value)} {name : Str} {L : Addr} {m : Str → Option Value} {Q : Value → Shared → Prop} (T : Txt prog K C fI cc cda fs) (S : ScOk scope fs)
    (X : K.In s.heap) (G : s.heap.Ns mainGlobals mg) (gS : mg "super" = none) (B : s.heap.Ns builtinsNs mb) (bS : mb "super" = some (.type "super")) (hn : s.heap.Ns L m)
    (hf : K.lookup fI = some ⟨oc, od, .func (fnX name q params body scope [("__class__", cc)] dV kV doc pm an (.ref cda) ct), osl⟩) (hp : (params.posonlyargs ++ params.args).head? = some ar) (har : ar.arg = "self") (hv : m "self" = some (.ref x)) (I : InstAt s.heap x ox C none)
    (h : ∀ so h', (∀ b o, s.heap.get? b = some o → h'.get? b = some o) → h'.get? so = some (ks_superObj C x C) → Q (.ref so) { s with heap := h' }) :
    _root_.PySem.wpAt (model prog w) A (.func body (envX q scope L fI (.ref cda) [("__class__", cc)])) (attributeBase (.Call (.Name "super" p0) [] [] p1) "__init__" (envX q scope L fI (.ref cda) [("__class__", cc)]) whole) Q E s := by
  obtain ⟨hh, g, d, t, os⟩ := s
  obtain ⟨ccl, cdd, vs, ccs, file, tf, hco, hvs, hfile⟩ := T.code
  obtain ⟨cl, cld, csl, hcell⟩ := T.cell
  obtain ⟨cd, hcd, _, _⟩ := clsK T
  obtain ⟨oD, hD1, hD2⟩ : ∃ oD, hh.get? C = some oD ∧ oD.data = .cls cd := by
    unfold clsIn at hcd
    split at hcd
    · rename_i c d cd' sl ho
      cases hcd
      exact ⟨_, X _ _ ho, rfl⟩
    · cases hcd
  refine ks_wpAt_super_base (env := envX q scope L fI (.ref cda) [("__class__", cc)]) S.sup S.cls (by decide) rfl (X _ _ hf) rfl hp rfl (X _ _ hco) rfl hvs hfile T.top ?_
  refine ks_loadName_global S.kind S.sup (loadGlobal_builtin (env := envX q scope L fI (.ref cda) [("__class__", cc)]) G gS B bS ⟨rfl, ?_⟩)
  refine wpAny_loadName_free S.kind S.cls rfl ⟨_, X _ _ hcell, rfl⟩ ?_
  rw [har]
  refine wpAny_loadName_local S.kind S.self hn hv ?_
  refine ks_wpAny_isType_cls hD1 hD2 ⟨rfl, ?_⟩
  exact ks_wpAny_call_super hD1 hD2 I.at_ I.cls (fun c e => by
    have := I.no
    unfold notCls at this
    rw [e] at this
    exact Bool.noConfusion this) (looks_mroIn X T.me) fun h' e k => h _ h' k e
/-- what __init__ leaves of a fresh error at x -/
structure InitEnd (h h' : Heap) (x C dx t1 : Addr) (mA : Str → Option Value) : Prop where
  keep : ∀ b o, b ≠ x → h.get? b = some o → h'.get? b = some o
  obj : h'.get? x = some { cls := .ref C, dict := some dx, data := .fields #[.ref t1, .none, .none, .none, .bool false, .none] }
  dbig : h.objs.size ≤ dx
  dne : dx ≠ x
  ns : h'.Ns1 dx mA
theorem ld_loc {sc : Scope} {L a : Addr} {q x : Str} {cdv : Value} {cl : List (Str × Addr)} {m : Str → Option Value} {pos : Pos} {v : Value} {Q : Value → Shared → Prop} (hk : sc.kind = .function) (hl : sc.names.lookup x = some .local) (hn : s.heap.Ns L m) (hv : m x = some v) (hd : (x == ("__debug__" : Str)) = false) (h : Q v s) :
    wpAny (model prog w) A (eval (.Name x pos) (envX q sc L a cdv cl)) Q E s := wpAny_Name (wpAny_loadName_local hk hl hn hv h) hd
theorem few_call {o : Expr} {name : Str} {apos pos : Pos} {args : List Expr} {env : Env} (hl : (apos.endLine == pos.line) = true) (hf : methodCallForm (args.length + 0) (backTo pos (starEach args env)) [] = true) :
    eval (.Call (.Attribute o name apos) args [] pos) env = (do
      let ov ← attributeBase o name env (eval o env)
      standAt apos.atName
      let (f, first) ← holding [ov] (calleeOf true o env ov name)
      callWith pos f first (backTo pos (starEach args env)) []) := by
  have e : methodCallPos true o env apos pos = pure pos := by
    unfold methodCallPos
    rw [hl]
    rfl
  show (attributeBase o name env (eval o env) >>= fun ov => standAt apos.atName >>= fun _ => methodCall o name apos pos env ov (args.length + 0) (backTo pos (starEach args env)) []) = _
  unfold methodCall
  rw [hf, e]
  simp only [pure_bind]
theorem err_init1 {f : Str} (T : Txt prog K C fI cc cda [f]) {scope : Scope} (S : ScOk scope [f]) {qual : Str} {oc doc pm ct : Value} {od an : Option Addr} {osl : Array (Option Value)} {p1 p2 q1 q2 q3 q4 q5 q6 q7 r1 r2 r3 r4 : Pos} (hl : (q2.endLine == q4.line) = true) (hf : (f == ("self" : Str)) = false) (hfd : (f == ("__debug__" : Str)) = false)
    (ho : K.lookup fI = some ⟨oc, od, .func (fnX "__init__" qual (iA1 f p1 p2) (iB1 f q1 q2 q3 q4 q5 q6 r1 r2 r3 r4 q7) scope [("__class__", cc)] .none .none doc pm an (.ref cda) ct), osl⟩) (hcd : codeIn K (.ref cda) qual = true)
    {x t0 : Addr} {v : Value} (X : K.In s.heap) (hlim : s.heap.NoLimit) (G : s.heap.Ns mainGlobals mg) (gS : mg "super" = none) (B : s.heap.Ns builtinsNs mb) (bS : mb "super" = some (.type "super"))
    (hx : s.heap.get? x = some (excObj C t0 none .none)) (hnx : K.lookup x = none) (hroom : A.depth < recursionLimit)
    (hbind : BindsTo s (fnX "__init__" qual (iA1 f p1 p2) (iB1 f q1 q2 q3 q4 q5 q6 r1 r2 r3 r4 q7) scope [("__class__", cc)] .none .none doc pm an (.ref cda) ct) ⟨[.ref x, v], []⟩ [("self", .ref x), (f, v)])
    (hq : ∀ h' tk dx t1, InitEnd s.heap h' x C dx t1 (fun y => if y = f then some v else none) → R (.ok (.ret .none)) { s with heap := h', toks := tk }) :
    codeAny (model prog w) A (.call (.ref fI) ⟨[.ref x, v], []⟩) R s := by
  have nint : ∀ L, interactive (envX qual scope L fI (.ref cda) [("__class__", cc)]) = false := fun L => by
    unfold interactive
    rw [show (envX qual scope L fI (.ref cda) [("__class__", cc)]).scope.kind = .function from S.kind]
    rfl
  have hloc := S.loc f List.mem_cons_self
  refine ks_codeAny_call_defAt (fd := fnX "__init__" qual (iA1 f p1 p2) (iB1 f q1 q2 q3 q4 q5 q6 r1 r2 r3 r4 q7) scope [("__class__", cc)] .none .none doc pm an (.ref cda) ct) (body := iB1 f q1 q2 q3 q4 q5 q6 r1 r2 r3 r4 q7) (binds := [("self", .ref x), (f, v)]) hroom (X _ _ ho) rfl hlim (codeRec_of X hcd) rfl hbind S.cell (fun y hy => ?_) (fun h₁ hn k => ?_) S.co S.gen S.kind
  · simp only [List.mem_cons, List.not_mem_nil, or_false] at hy
    rcases hy with rfl | rfl
    · exact S.self
    · exact hloc
  have mS : ([("self", Value.ref x), (f, v)] : List (Str × Value)).reverse.lookup ("self" : Str) = some (.ref x) := by
    have : (("self" : Str) == f) = false := by rw [beq_eq_false_iff_ne] at *; exact fun z => hf z.symm
    simp [List.lookup, this]
  have mF : ([("self", Value.ref x), (f, v)] : List (Str × Value)).reverse.lookup f = some v := by simp [List.lookup]
  have hxL : s.heap.objs.size ≠ x := Nat.ne_of_gt (Heap.lt_size hx)
  refine ks_wpAt_execs_cons ?_
  refine ks_wpAt_Expr_any ?_ (nint _)
  refine ks_wpAt_MethodCall ?_ (few_call hl rfl)
  refine sup_node (s := { s with heap := h₁, toks := _ }) (ar := { arg := "self", annotation := none, pos := p1 }) T S (X.keeps k) (G.keeps k) gS (B.keeps k) bS hn ho rfl rfl mS ⟨k _ _ hx, rfl, rfl, trivial⟩ fun so h₂ k₂ hso => ?_
  have hx₂ := k₂ _ _ (k _ _ hx)
  have X₂ : K.In h₂ := (X.keeps k).keeps k₂
  obtain ⟨cd, hcd1, hcd2, hcd3⟩ := clsK T
  have kC : clsIn K C = some cd := hcd1
  have hI : Looks (model prog w) h₂ (isInstance (.ref x) (.type "ValueError")) true := (InstAt.type (⟨hx₂, rfl, rfl, trivial⟩ : InstAt h₂ x (excObj C t0 none .none) C none)).andThen (looks_subIn X₂ T.ve)
  have hxC : x ≠ C := fun z => by
    obtain ⟨nm, q, N, bs, bm, sn, sub, ab, col, dd, k0, k1, k2, k3, k5, hC, _⟩ := T.cls
    rw [z, hC] at hnx
    cases hnx
  have hsup : alongIn K "__init__" ((cd.mro.dropWhile (· != .ref C)).drop 1) = some (some (.builtin "ValueError.__init__")) := by
    have := T.sup
    unfold ks_superIn at this
    rw [kC] at this
    exact this
  refine kxs_getMethod kxs_ValueError (l₀ := cd.mro) hso (looks_opaque X₂ T.st) (fun A Q E s k q => wpAny_bind ((looks_clsIn X₂ kC) A _ E s k (wpAny_pure q))) rfl X₂ hsup hI hxC (by decide) ?_
  have hu : veU h₂.objs.size x (h₂.push (kxs_mw "ValueError.__init__" x)) := Heap.get?_push_at rfl rfl
  have kp : ∀ b o, h₂.get? b = some o → (h₂.push (kxs_mw "ValueError.__init__" x)).get? b = some o := fun b o e => Heap.get?_push_of_some _ e
  refine kxs_callWith (i := "ValueError.__init__") (x := x) rfl ?_
  refine evalArgs_plain (spliced_cons (ld_loc S.kind hloc ((hn.keeps k₂).keeps kp) mF hfd (spliced_nil ⟨hu, ?_⟩)))
  refine ve_call T (X₂.keeps kp) (kp _ _ hx₂) hu (by rw [sizeLine_eq]; exact (show 1 ≤ 16777216 by decide)) fun h₃ t1 k₃ hx₃ => ?_
  have k03 : ∀ b o, b ≠ x → s.heap.get? b = some o → h₃.get? b = some o := fun b o hb e => k₃ b o hb (kp _ _ (k₂ _ _ (k _ _ e)))
  have n₃ : h₃.Ns s.heap.objs.size (fun y => ([("self", Value.ref x), (f, v)] : List (Str × Value)).reverse.lookup y) := ((hn.keeps k₂).keeps kp).at fun o e => k₃ _ o hxL e
  have X₃ : K.In h₃ := kept_but X hnx k03
  refine ks_wpAt_execs_cons (wpAt_of_wpAny ?_)
  refine plainObj_wpAny_Assign_Attribute ?_
  refine ld_loc S.kind hloc n₃ mF hfd (ld_loc S.kind S.self n₃ mS (by decide) ?_)
  refine set_plain X₃ (ox := excObj C t1 none .none) (od := none) ⟨hx₃, rfl, rfl, trivial⟩ T.sa ?_
  refine exc_osa X₃ hx₃ kC hcd2 hcd3 (T.noF f List.mem_cons_self) (fun h₄ tk₄ dx k₄ dn dne hx₄ hn₄ => ?_)
  refine wpAt_of_wpAny (wpAny_execs_nil (hq h₄ _ dx t1 ⟨fun b o hb e => k₄ b o hb (k03 b o hb e), hx₄, ?_, dne, hn₄⟩))
  have z : s.heap.objs.size < h₃.objs.size := n₃.lt
  exact Nat.le_of_lt (Nat.lt_of_lt_of_le z dn)
theorem err_init2 {f g : Str} (T : Txt prog K C fI cc cda [f, g]) {scope : Scope} (S : ScOk scope [f, g]) {qual : Str} {oc doc pm ct : Value} {od an : Option Addr} {osl : Array (Option Value)} {p1 p2 p3 q1 q2 q3 q4 q5 q6 q7 r1 r2 r3 r4 t1 t2 t3 t4 : Pos} (hl : (q2.endLine == q4.line) = true) (hf : (f == ("self" : Str)) = false) (hfd : (f == ("__debug__" : Str)) = false) (hg : (g == ("self" : Str)) = false) (hgd : (g == ("__debug__" : Str)) = false) (hgf : (g == f) = false)
    (ho : K.lookup fI = some ⟨oc, od, .func (fnX "__init__" qual (iA2 f g p1 p2 p3) (iB2 f g q1 q2 q3 q4 q5 q6 r1 r2 r3 r4 q7 t1 t2 t3 t4) scope [("__class__", cc)] .none .none doc pm an (.ref cda) ct), osl⟩) (hcd : codeIn K (.ref cda) qual = true)
    {x t0 : Addr} {v u : Value} (X : K.In s.heap) (hlim : s.heap.NoLimit) (G : s.heap.Ns mainGlobals mg) (gS : mg "super" = none) (B : s.heap.Ns builtinsNs mb) (bS : mb "super" = some (.type "super"))
    (hx : s.heap.get? x = some (excObj C t0 none .none)) (hnx : K.lookup x = none) (hroom : A.depth < recursionLimit)
    (hbind : BindsTo s (fnX "__init__" qual (iA2 f g p1 p2 p3) (iB2 f g q1 q2 q3 q4 q5 q6 r1 r2 r3 r4 q7 t1 t2 t3 t4) scope [("__class__", cc)] .none .none doc pm an (.ref cda) ct) ⟨[.ref x, v, u], []⟩ [("self", .ref x), (f, v), (g, u)])
    (hq : ∀ h' tk dx t1, InitEnd s.heap h' x C dx t1 (fun y => if y = g then some u else if y = f then some v else none) → R (.ok (.ret .none)) { s with heap := h', toks := tk }) :
    codeAny (model prog w) A (.call (.ref fI) ⟨[.ref x, v, u], []⟩) R s := by
  have nint : ∀ L, interactive (envX qual scope L fI (.ref cda) [("__class__", cc)]) = false := fun L => by
    unfold interactive
    rw [show (envX qual scope L fI (.ref cda) [("__class__", cc)]).scope.kind = .function from S.kind]
    rfl
  have hloc := S.loc f List.mem_cons_self
  have hlog := S.loc g (List.mem_cons_of_mem _ List.mem_cons_self)
  refine ks_codeAny_call_defAt (fd := fnX "__init__" qual (iA2 f g p1 p2 p3) (iB2 f g q1 q2 q3 q4 q5 q6 r1 r2 r3 r4 q7 t1 t2 t3 t4) scope [("__class__", cc)] .none .none doc pm an (.ref cda) ct) (body := iB2 f g q1 q2 q3 q4 q5 q6 r1 r2 r3 r4 q7 t1 t2 t3 t4) (binds := [("self", .ref x), (f, v), (g, u)]) hroom (X _ _ ho) rfl hlim (codeRec_of X hcd) rfl hbind S.cell (fun y hy => ?_) (fun h₁ hn k => ?_) S.co S.gen S.kind
  · simp only [List.mem_cons, List.not_mem_nil, or_false] at hy
    rcases hy with rfl | rfl | rfl
    · exact S.self
    · exact hloc
    · exact hlog
  have mS : ([("self", Value.ref x), (f, v), (g, u)] : List (Str × Value)).reverse.lookup ("self" : Str) = some (.ref x) := by
    have e1 : (("self" : Str) == f) = false := by rw [beq_eq_false_iff_ne] at *; exact fun z => hf z.symm
    have e2 : (("self" : Str) == g) = false := by rw [beq_eq_false_iff_ne] at *; exact fun z => hg z.symm
    simp [List.lookup, e1, e2]
  have mF : ([("self", Value.ref x), (f, v), (g, u)] : List (Str × Value)).reverse.lookup f = some v := by
    have e1 : (f == g) = false := by rw [beq_eq_false_iff_ne] at *; exact fun z => hgf z.symm
    simp [List.lookup, e1]
  have mG : ([("self", Value.ref x), (f, v), (g, u)] : List (Str × Value)).reverse.lookup g = some u := by simp [List.lookup]
  have hxL : s.heap.objs.size ≠ x := Nat.ne_of_gt (Heap.lt_size hx)
  refine ks_wpAt_execs_cons ?_
  refine ks_wpAt_Expr_any ?_ (nint _)
  refine ks_wpAt_MethodCall ?_ (few_call hl rfl)
  refine sup_node (s := { s with heap := h₁, toks := _ }) (ar := { arg := "self", annotation := none, pos := p1 }) T S (X.keeps k) (G.keeps k) gS (B.keeps k) bS hn ho rfl rfl mS ⟨k _ _ hx, rfl, rfl, trivial⟩ fun so h₂ k₂ hso => ?_
  have hx₂ := k₂ _ _ (k _ _ hx)
  have X₂ : K.In h₂ := (X.keeps k).keeps k₂
  obtain ⟨cd, hcd1, hcd2, hcd3⟩ := clsK T
  have kC : clsIn K C = some cd := hcd1
  have hI : Looks (model prog w) h₂ (isInstance (.ref x) (.type "ValueError")) true := (InstAt.type (⟨hx₂, rfl, rfl, trivial⟩ : InstAt h₂ x (excObj C t0 none .none) C none)).andThen (looks_subIn X₂ T.ve)
  have hxC : x ≠ C := fun z => by
    obtain ⟨nm, q, N, bs, bm, sn, sub, ab, col, dd, k0, k1, k2, k3, k5, hC, _⟩ := T.cls
    rw [z, hC] at hnx
    cases hnx
  have hsup : alongIn K "__init__" ((cd.mro.dropWhile (· != .ref C)).drop 1) = some (some (.builtin "ValueError.__init__")) := by
    have := T.sup
    unfold ks_superIn at this
    rw [kC] at this
    exact this
  refine kxs_getMethod kxs_ValueError (l₀ := cd.mro) hso (looks_opaque X₂ T.st) (fun A Q E s k q => wpAny_bind ((looks_clsIn X₂ kC) A _ E s k (wpAny_pure q))) rfl X₂ hsup hI hxC (by decide) ?_
  have hu : veU h₂.objs.size x (h₂.push (kxs_mw "ValueError.__init__" x)) := Heap.get?_push_at rfl rfl
  have kp : ∀ b o, h₂.get? b = some o → (h₂.push (kxs_mw "ValueError.__init__" x)).get? b = some o := fun b o e => Heap.get?_push_of_some _ e
  refine kxs_callWith (i := "ValueError.__init__") (x := x) rfl ?_
  refine evalArgs_plain (spliced_cons (ld_loc S.kind hloc ((hn.keeps k₂).keeps kp) mF hfd (spliced_cons (ld_loc S.kind hlog ((hn.keeps k₂).keeps kp) mG hgd (spliced_nil ⟨hu, ?_⟩)))))
  refine ve_call T (X₂.keeps kp) (kp _ _ hx₂) hu (by rw [sizeLine_eq]; exact (show 2 ≤ 16777216 by decide)) fun h₃ t1_ k₃ hx₃ => ?_
  have k03 : ∀ b o, b ≠ x → s.heap.get? b = some o → h₃.get? b = some o := fun b o hb e => k₃ b o hb (kp _ _ (k₂ _ _ (k _ _ e)))
  have n₃ : h₃.Ns s.heap.objs.size (fun y => ([("self", Value.ref x), (f, v), (g, u)] : List (Str × Value)).reverse.lookup y) := ((hn.keeps k₂).keeps kp).at fun o e => k₃ _ o hxL e
  have X₃ : K.In h₃ := kept_but X hnx k03
  refine ks_wpAt_execs_cons (wpAt_of_wpAny ?_)
  refine plainObj_wpAny_Assign_Attribute ?_
  refine ld_loc S.kind hloc n₃ mF hfd (ld_loc S.kind S.self n₃ mS (by decide) ?_)
  refine set_plain X₃ (ox := excObj C t1_ none .none) (od := none) ⟨hx₃, rfl, rfl, trivial⟩ T.sa ?_
  refine exc_osa X₃ hx₃ kC hcd2 hcd3 (T.noF f List.mem_cons_self) (fun h₄ tk₄ dx k₄ dn dne hx₄ hn₄ => ?_)
  have k04 : ∀ b o, b ≠ x → s.heap.get? b = some o → h₄.get? b = some o := fun b o hb e => k₄ b o hb (k03 b o hb e)
  have n₄ : h₄.Ns s.heap.objs.size (fun y => ([("self", Value.ref x), (f, v), (g, u)] : List (Str × Value)).reverse.lookup y) := n₃.at fun o e => k₄ _ o hxL e
  have X₄ : K.In h₄ := kept_but X hnx k04
  have wi : Within (fun y => if y = f then some v else none) [f] := fun y hy => by
    by_cases e : y = f
    · rw [e]; exact List.mem_cons_self
    · exact absurd (if_neg e) hy
  obtain ⟨oD, _, _, hoD, _, _⟩ := hn₄.count wi
  have z : s.heap.objs.size < h₃.objs.size := n₃.lt
  refine wpAt_of_wpAny ?_
  refine wpAny_execs_cons ?_
  refine plainObj_wpAny_Assign_Attribute ?_
  refine ld_loc S.kind hlog n₄ mG hgd (ld_loc S.kind S.self n₄ mS (by decide) ?_)
  refine set_plain X₄ (ox := { cls := .ref C, dict := some dx, data := .fields #[.ref t1_, .none, .none, .none, .bool false, .none] }) (od := some oD) ⟨hx₄, rfl, rfl, hoD⟩ T.sa ?_
  refine PySem.OEX.osa_old X₄ hx₄ hn₄ wi (by simp) kC hcd2 hcd3 (T.noF g (List.mem_cons_of_mem _ List.mem_cons_self)) fun h₅ tk₅ k₅ hn₅ => ?_
  have dL : dx ≠ s.heap.objs.size := Nat.ne_of_gt (Nat.lt_of_lt_of_le z dn)
  refine wpAny_execs_nil (hq h₅ _ dx t1_ ⟨fun b o hb e => k₅ b o (fun y => by
    have := Heap.lt_size e
    rw [y] at this
    exact absurd (Nat.lt_of_lt_of_le z dn) (Nat.not_lt.mpr (Nat.le_of_lt this))) (k04 b o hb e), k₅ _ _ (Ne.symm dne) hx₄, Nat.le_of_lt (Nat.lt_of_lt_of_le z dn), dne, hn₅⟩)
end
end EX
end GM

set_option maxRecDepth 100000
set_option maxHeartbeats 2000000
/-! GM: own errors made by a call -/
namespace GM
namespace EX
open PySem PySem.W PySem.Calls PyProof.Rows PySem.HandSPX
/-- a made error -/
structure OwnMade (h h' : Heap) (e C d : Addr) (fs : List Str) (us : List Value) : Prop where
  keep : ∀ b o, h.get? b = some o → h'.get? b = some o
  new : h.objs.size ≤ e
  obj : ∃ oe vs, h'.get? e = some oe ∧ oe.cls = .ref C ∧ oe.dict = some d ∧ oe.data = .fields vs ∧ vs[1]? = some .none
  dbig : h.objs.size ≤ d
  dne : d ≠ e
  ns : ∃ mA, h'.Ns1 d mA ∧ ∀ y, mA y = (fs.zip us).lookup y
/-- the class at C makes such errors -/
def Makes (prog : Program) (w : World) (K : Frag) (mg : Str → Option Value) (C : Addr) (fs : List Str) : Prop :=
  ∀ (A : Around) (R : Result → Shared → Prop) (s : Shared) (mb : Str → Option Value) (us : List Value), us.length = fs.length → K.In s.heap → s.heap.NoLimit → s.heap.Ns mainGlobals mg → s.heap.Ns builtinsNs mb → mb "super" = some (.type "super") → A.depth + 1 < recursionLimit →
    (∀ h' tk e d, OwnMade s.heap h' e C d fs us → R (.ok (.ret (.ref e))) { s with heap := h', toks := tk }) → codeAny (model prog w) A (.call (.ref C) ⟨us, []⟩) R s
section
variable {prog : Program} {w : World} {K : Frag} {mg : Str → Option Value} {C fI cc cda : Addr} {fs : List Str}
theorem made_by (T : Txt prog K C fI cc cda fs) (hfs : fs.length ≤ 1000)
    (init : ∀ (A : Around) (R : Result → Shared → Prop) (s : Shared) (mb : Str → Option Value) (us : List Value) (x t0 : Addr), us.length = fs.length → K.In s.heap → s.heap.NoLimit → s.heap.Ns mainGlobals mg → s.heap.Ns builtinsNs mb → mb "super" = some (.type "super") →
      s.heap.get? x = some (excObj C t0 none .none) → K.lookup x = none → A.depth < recursionLimit → (∀ h' tk dx t1 mA, InitEnd s.heap h' x C dx t1 mA → (∀ y, mA y = (fs.zip us).lookup y) → R (.ok (.ret .none)) { s with heap := h', toks := tk }) →
      codeAny (model prog w) A (.call (.ref fI) ⟨.ref x :: us, []⟩) R s) : Makes prog w K mg C fs := by
  intro A R s mb us hlen X hlim G B bS hroom hq
  obtain ⟨nm, q, N, bs, bm, sn, sub, ab, col, dd, k0, k1, k2, k3, k5, hC, hbm⟩ := T.cls
  obtain ⟨hp, g, dr, tk, os⟩ := s
  have k : ∀ b o, hp.get? b = some o → ((hp.push (kdv_tup us)).push (excO C hp.objs.size)).get? b = some o := fun b o e => Heap.get?_push_of_some _ (Heap.get?_push_of_some _ e)
  have hget : ((hp.push (kdv_tup us)).push (excO C hp.objs.size)).get? (hp.objs.size + 1) = some (excO C hp.objs.size) := by heap_get
  have hnx : K.lookup (hp.objs.size + 1) = none := by
    cases e : K.lookup (hp.objs.size + 1) with
    | none => rfl
    | some o =>
      have z : hp.get? (hp.objs.size + 1) = some o := X _ _ e
      exact absurd (Nat.lt_of_succ_lt (Heap.lt_size z)) (Nat.lt_irrefl _)
  obtain ⟨oI, hoI, hcI⟩ : ∃ oI, hp.get? fI = some oI ∧ oI.cls = .type "function" := by
    have h2 : (K.lookup fI).map (·.cls) = some (.type "function") := T.tI
    obtain ⟨o, ho, hc⟩ := Option.map_eq_some_iff.mp h2
    exact ⟨o, X _ _ ho, hc⟩
  refine call_own F.excBase_ValueError (fun X => refsVE_contains X bm hbm) (X _ _ hC) (looks_findIn X T.iC) (fun self => exc_bind hoI hcI self) (by rw [sizeLine_eq, hlen]; exact Nat.le_trans hfs (by decide)) ?_
  refine init _ _ ⟨(hp.push (kdv_tup us)).push (excO C hp.objs.size), g, dr, tk, os⟩ mb us (hp.objs.size + 1) hp.objs.size hlen (X.keeps k) (hlim.keeps k) (G.keeps k) (B.keeps k) bS hget hnx ?_ fun h' tk' dx t1 mA ⟨k', hx, dn, dne, hns⟩ hmA => ?_
  · show A.depth + 1 < recursionLimit
    exact hroom
  · have old : ∀ b o, hp.get? b = some o → h'.get? b = some o := fun b o e => k' b o (Nat.ne_of_lt (Nat.lt_succ_of_lt (Heap.lt_size e))) (k b o e)
    have z : hp.objs.size + 1 + 1 ≤ dx := by
      first
        | (simpa only [Heap.size_push] using dn)
        | exact dn
        | (have q := dn; rw [Heap.size_push, Heap.size_push] at q; exact q)
    exact ⟨rfl, hq h' tk' (hp.objs.size + 1) dx ⟨old, Nat.le_succ _, ⟨_, _, hx, rfl, rfl, rfl, rfl⟩, Nat.le_trans (Nat.le_trans (Nat.le_succ _) (Nat.le_succ _)) z, dne, mA, hns, hmA⟩⟩
theorem makes1 {f : Str} (T : Txt prog K C fI cc cda [f]) {scope : Scope} (S : ScOk scope [f]) {qual : Str} {oc doc pm ct : Value} {od an : Option Addr} {osl : Array (Option Value)} {p1 p2 q1 q2 q3 q4 q5 q6 q7 r1 r2 r3 r4 : Pos} (hl : (q2.endLine == q4.line) = true) (hf : (f == ("self" : Str)) = false) (hfd : (f == ("__debug__" : Str)) = false)
    (ho : K.lookup fI = some ⟨oc, od, .func (fnX "__init__" qual (iA1 f p1 p2) (iB1 f q1 q2 q3 q4 q5 q6 r1 r2 r3 r4 q7) scope [("__class__", cc)] .none .none doc pm an (.ref cda) ct), osl⟩) (hcd : codeIn K (.ref cda) qual = true) (gS : mg "super" = none)
    (hbind : ∀ (s : Shared) (x v : Value), BindsTo s (fnX "__init__" qual (iA1 f p1 p2) (iB1 f q1 q2 q3 q4 q5 q6 r1 r2 r3 r4 q7) scope [("__class__", cc)] .none .none doc pm an (.ref cda) ct) ⟨[x, v], []⟩ [("self", x), (f, v)]) : Makes prog w K mg C [f] :=
  made_by T (by simp) fun A R s mb us x t0 hlen X hlim G B bS hx hnx hroom hq => by
    match us, hlen with
    | [v], _ =>
      exact err_init1 T S hl hf hfd ho hcd X hlim G gS B bS hx hnx hroom (hbind _ _ _) fun h' tk dx t1 ie => hq h' tk dx t1 _ ie fun y => by
        show (if y = f then some v else none) = List.lookup y [(f, v)]
        by_cases e : y = f
        · subst e; rw [if_pos rfl, List.lookup_cons_self]
        · have e1 : (y == f) = false := by simpa using e
          rw [if_neg e, List.lookup_cons, e1]
          rfl
theorem makes2 {f g : Str} (T : Txt prog K C fI cc cda [f, g]) {scope : Scope} (S : ScOk scope [f, g]) {qual : Str} {oc doc pm ct : Value} {od an : Option Addr} {osl : Array (Option Value)} {p1 p2 p3 q1 q2 q3 q4 q5 q6 q7 r1 r2 r3 r4 t1 t2 t3 t4 : Pos} (hl : (q2.endLine == q4.line) = true) (hf : (f == ("self" : Str)) = false) (hfd : (f == ("__debug__" : Str)) = false)
    (hg : (g == ("self" : Str)) = false) (hgd : (g == ("__debug__" : Str)) = false) (hgf : (g == f) = false)
    (ho : K.lookup fI = some ⟨oc, od, .func (fnX "__init__" qual (iA2 f g p1 p2 p3) (iB2 f g q1 q2 q3 q4 q5 q6 r1 r2 r3 r4 q7 t1 t2 t3 t4) scope [("__class__", cc)] .none .none doc pm an (.ref cda) ct), osl⟩) (hcd : codeIn K (.ref cda) qual = true) (gS : mg "super" = none)
    (hbind : ∀ (s : Shared) (x v u : Value), BindsTo s (fnX "__init__" qual (iA2 f g p1 p2 p3) (iB2 f g q1 q2 q3 q4 q5 q6 r1 r2 r3 r4 q7 t1 t2 t3 t4) scope [("__class__", cc)] .none .none doc pm an (.ref cda) ct) ⟨[x, v, u], []⟩ [("self", x), (f, v), (g, u)]) : Makes prog w K mg C [f, g] :=
  made_by T (by simp) fun A R s mb us x t0 hlen X hlim G B bS hx hnx hroom hq => by
    match us, hlen with
    | [v, u], _ =>
      exact err_init2 T S hl hf hfd hg hgd hgf ho hcd X hlim G gS B bS hx hnx hroom (hbind _ _ _ _) fun h' tk dx t1 ie => hq h' tk dx t1 _ ie fun y => by
        show (if y = g then some u else if y = f then some v else none) = List.lookup y [(f, v), (g, u)]
        have ne : ¬ g = f := by simpa using hgf
        by_cases e : y = f
        · subst e
          have : ¬ y = g := fun z => ne z.symm
          rw [if_neg this, if_pos rfl, List.lookup_cons_self]
        · have e1 : (y == f) = false := by simpa using e
          rw [List.lookup_cons, e1]
          show _ = List.lookup y [(g, u)]
          by_cases e2 : y = g
          · subst e2; rw [if_pos rfl, List.lookup_cons_self]
          · have e3 : (y == g) = false := by simpa using e2
            rw [if_neg e2, if_neg e, List.lookup_cons, e3]
            rfl
end
end EX
end GM
namespace GM
open PySem PySem.Spec PyProof.Rows L2
section
variable {X : Cx} {C : Addr} {fs : List Str}
/-- C(e, ..) -/
def tMkErr (C : Addr) (fs : List Str) (ta : TA) : L2.St → Hp → XK → Prop := fun σ H Q => ta σ H fun vs H1 => vs.length = fs.length ∧ ∀ d, H1 d = none → Q (.ref C) (some d) (upd H1 d (.xd (fs.zip vs)))
theorem relO_zip : ∀ {fs : List Str} {vs : List V} {us : List Value}, Vals vs us → ∀ y, RelO ((fs.zip vs).lookup y) ((fs.zip us).lookup y)
  | [], _, _, _, _ => trivial
  | f :: fs, _, _, .nil, y => by rw [List.zip_nil_right, List.zip_nil_right]; trivial
  | f :: fs, v :: vs, u :: us, .cons r rr, y => by
    rw [List.zip_cons_cons, List.zip_cons_cons]
    simp only [List.lookup]
    cases y == f with
    | true => exact r
    | false => exact relO_zip rr y
theorem pmk_err {x : Str} {e : Expr} {es : List Expr} {ta : TA} {p pos : Pos} {k : Nat} (hr : Room (k + 1) X.A) (mk : EX.Makes X.prog X.w X.K X.mg C fs) (gC : X.mg x = some (.ref C)) (kC : PySem.W.keepIn X.K (.ref C) = true) (rs : Raises X (.ref C)) (ha : PA X (e :: es) ta) (hg : Gl X x) (hdb : (x == ("__debug__" : Str)) = false)
    (he : starEach (e :: es) X.env = (false, eval e X.env) :: starEach es X.env) (hpl : (backTo pos (starEach es X.env)).any (·.1) = false) :
    PMk X (.Call (.Name x p) (e :: es) [] pos) (tMkErr C fs ta) := by
  intro pins s σ H Q I h
  refine wpAny_Call_Name_kw (ld_glob I hg gC ?_ hdb)
  refine PySem.W.callWith_K (h₀ := X.base) I.ok.mod.kin kC (thn (ha.run pos pins s σ H _ I h) fun us s1 hh => ?_) he hpl
  obtain ⟨vs, H1, I1, r1, ev, q1⟩ := hh
  refine ⟨I1.kIn, ?_⟩
  show wpAny _ _ (call (.ref C) us) _ _ _
  have hlim := I1.nolimit
  obtain ⟨mb, hb, hbm⟩ := I1.ok.mod.blt
  have G1 := I1.ok.mod.glob.keeps I1.bk
  have B1 := hb.keeps I1.bk
  obtain ⟨hp, g, dr, tk, os⟩ := s1
  refine wpAny_call (mk _ _ ⟨hp, g, dr, tk, os⟩ mb us (by rw [← r1.length, ev]) I1.kIn hlim G1 B1 (hbm _ (by decide)) (by have := hr.dp; omega) fun h' tk' e d M => ?_)
  show MkP X pins σ Q (.ref e) ⟨h', g, dr, tk', os⟩
  obtain ⟨oe, fv, hoe, hc, hd, hdat, h1⟩ := M.obj
  obtain ⟨mA, hns, hmA⟩ := M.ns
  obtain ⟨G', g1, g2⟩ := restrict h' fun b => decide (b ≠ e)
  have gk : ∀ b, b ≠ e → G'.get? b = h'.get? b := fun b hb => g1 b (decide_eq_true hb)
  have ge : G'.get? e = none := g2 e (by simp)
  have old : ∀ b o, hp.get? b = some o → G'.get? b = some o := fun b o q => (gk b (Nat.ne_of_lt (Nat.lt_of_lt_of_le (Heap.lt_size q) M.new))).trans (M.keep b o q)
  have ob : ObjOk X.prog X.w (upd H1 d (.xd (fs.zip vs))) G' d (.xd (fs.zip vs)) :=
    ⟨mA, hns.at (fun o q => (gk d M.dne).trans q), fun f => by rw [hmA]; exact relO_zip r1 f⟩
  have J : Inv X pins σ (upd H1 d (.xd (fs.zip vs))) ⟨G', g, dr, tk', os⟩ := I1.laid (t' := tk') old M.dbig ob
  refine ⟨e, oe, fv, ⟨G', g, dr, tk', os⟩, _, .ref C, some d, rfl, J, fun b o q => ?_, ge, hoe, ⟨hc, hd⟩, hdat, h1, ?_, rfl, I1.bare, rs, q1 d (I1.hok.fresh M.dbig)⟩
  · by_cases hb : b = e
    · have q' : G'.get? b = some o := q
      rw [hb, ge] at q'; cases q'
    · exact (gk b hb).symm.trans q
  · rw [upd_ne (Ne.symm M.dne)]
    exact I1.hok.fresh M.new
end
end GM

set_option maxRecDepth 100000
set_option maxHeartbeats 2000000
/-! GM: isinstance of a caught own error that has its dict -/
namespace GM
open PySem PySem.Spec PyProof.Rows L2
/-- what is known of an own error's class -/
structure ErrC (K : PySem.W.Frag) (C : Addr) (ns : List Str) : Prop where
  xf : XfC K C
  no : ∀ f ∈ ns, PySem.W.findIn K (.ref C) f = some none
  cl : (PySem.W.clsIn K C).isSome = true
  ca : PySem.W.findIn K (.ref C) "__class__" = some (some (.builtin "object.__class__"))
  sp : PySem.W.specialIn K (.builtin "object.__class__") "__get__" = some (some (.builtin "getset_descriptor.__get__"))
  tk : PySem.W.takesIn K (.builtin "object.__class__") = some true
  mo : PySem.W.mroIn K C (.type "object") = some true
section
variable {X : Cx} {a C dd : Addr} {oe : Obj} {pn : List (Addr × Obj)} {ns : List Str}
theorem held_at {pins : List (Addr × Obj)} {σ : L2.St} {H : Hp} {s : Shared} {fs : List (Str × V)} (I : Inv (X.suite a ((a, oe) :: pn)) pins σ H s) (hz : Zc (.ref C) (some dd) oe) (hf : ∃ vs, oe.data = .fields vs) (hd : H dd = some (.xd fs)) :
    ∃ od, PySem.W.InstAt s.heap a oe C (some od) := by
  obtain ⟨ha, _⟩ := I.pin (a, oe) (List.mem_append_left _ List.mem_cons_self)
  obtain ⟨vs, hv⟩ := hf
  have hx : ObjOk X.prog X.w H s.heap dd (.xd fs) := I.hok dd _ hd
  obtain ⟨mA, hns, hr⟩ := hx
  obtain ⟨od, ho, hl⟩ := lookIn_ns hns
  exact ⟨od, ha, hz.1, by unfold PySem.W.notCls; rw [hv] <;> rfl, by rw [hz.2]; exact ho⟩
def rIsX (K : PySem.W.Frag) (C a dd : Addr) : List V → Hp → VK → Prop := fun xs H Q => ∃ (c : V) (u : Value) (b : Bool) (fs : List (Str × V)), xs = [.ref a, c] ∧ ClsV c u ∧ PySem.W.kitOne K (.ref C) u = some b ∧ H dd = some (.xd fs) ∧ Q (.bl b) H
def rIsXT (K : PySem.W.Frag) (C a dd : Addr) : List V → Hp → VK → Prop := fun xs H Q => ∃ (tp : Addr) (cs : List V) (us : List Value) (b : Bool) (fs : List (Str × V)), xs = [.ref a, .ref tp] ∧ H tp = some (.tup cs) ∧ Paired ClsV cs us ∧ PySem.W.kitAny K (.ref C) us = some b ∧ H dd = some (.xd fs) ∧ Q (.bl b) H
theorem call_isX (E : ErrC X.K C ns) (hz : Zc (.ref C) (some dd) oe) (hf : ∃ vs, oe.data = .fields vs) : CallR (X.suite a ((a, oe) :: pn)) (.builtin "isinstance") (rIsX X.K C a dd) := by
  intro pins s σ H xs us Q I r h
  obtain ⟨c, u, b, fs, rfl, k, e, hd, q⟩ := h
  cases r with
  | cons rx rr =>
    cases rr with
    | cons rt rr =>
      cases rr
      cases rx
      have ec := k.eq rt
      subst ec
      obtain ⟨od, J⟩ := held_at I hz hf hd
      exact PySem.W.kia_one (PySem.W.kitx_exc E.cl E.xf.ga E.xf.gg E.xf.exC E.ca E.sp E.tk E.mo) I.kIn J e (fun z => nomatch z) fun tk => ⟨.bl b, H, I.kept (t' := tk) fun _ _ z => z, rfl, q⟩
theorem call_isXT (E : ErrC X.K C ns) (hz : Zc (.ref C) (some dd) oe) (hf : ∃ vs, oe.data = .fields vs) : CallR (X.suite a ((a, oe) :: pn)) (.builtin "isinstance") (rIsXT X.K C a dd) := by
  intro pins s σ H xs us Q I r h
  obtain ⟨tp, cs, ws, b, fs, rfl, ht, k, e, hd, q⟩ := h
  cases r with
  | cons rx rr =>
    cases rr with
    | cons rt rr =>
      cases rr
      cases rx
      cases rt
      obtain ⟨its, rv, ⟨⟨cls, ddd, data, sl⟩, ho, hc, n, hdt⟩, _⟩ := I.tuple (.inl (.inl ht))
      simp only at hc hdt
      subst hc hdt
      have e3 := ClsV.all k rv
      subst e3
      obtain ⟨od, J⟩ := held_at I hz hf hd
      exact PySem.W.kia_tup (PySem.W.kitx_exc E.cl E.xf.ga E.xf.gg E.xf.exC E.ca E.sp E.tk E.mo) I.kIn J ho e (fun z => nomatch z) fun tk => ⟨.bl b, H, I.kept (t' := tk) fun _ _ z => z, rfl, q⟩
end
end GM

set_option maxRecDepth 100000
set_option maxHeartbeats 3200000
/-! GM: math.lcm; sorted(set(xs)), xs a list of ints -/
namespace GM
open PySem PySem.Spec PyProof.Rows L2
theorem log_max {a b k : Nat} (ha : a.log2 < k) (hb : b.log2 < k) : (max a b).log2 < k := by
  rcases Nat.le_total a b with h | h
  · rw [Nat.max_eq_right h]; exact hb
  · rw [Nat.max_eq_left h]; exact ha
theorem log_mul {a b k : Nat} (ha : a.log2 < k) (hb : b.log2 < k) : (a * b).log2 < 2 * k + 1 := by
  by_cases h0 : a = 0
  · subst h0; simp
  · by_cases h1 : b = 0
    · subst h1; simp
    · have e : a * b ≠ 0 := Nat.mul_ne_zero h0 h1
      rw [Nat.log2_lt e]
      have := (Nat.log2_lt h0).mp ha
      have := (Nat.log2_lt h1).mp hb
      calc a * b < 2 ^ k * 2 ^ k := Nat.mul_lt_mul'' ‹_› ‹_›
        _ = 2 ^ (k + k) := (Nat.pow_add 2 k k).symm
        _ ≤ 2 ^ (2 * k + 1) := Nat.pow_le_pow_right (by decide) (by omega)
theorem log_le {a b : Nat} (h : a ≤ b) {k : Nat} (hb : b.log2 < k) : a.log2 < k := by
  by_cases h0 : a = 0
  · subst h0
    rw [Nat.log2_zero]; omega
  · rw [Nat.log2_lt h0]
    have := (Nat.log2_lt (by omega : b ≠ 0)).mp hb
    omega
def rLcm : List V → Hp → VK → Prop := fun xs H Q => ∃ i j : Int, xs = [.int i, .int j] ∧ i.natAbs.log2 < 9000 ∧ j.natAbs.log2 < 9000 ∧ Q (.int (Nat.lcm i.natAbs j.natAbs : Nat)) H
theorem cr_lcm {X : Cx} : CallR X (.builtin "math.lcm") rLcm := by
  intro pins s σ H vs us Q I r h
  obtain ⟨i, j, rfl, hi, hj, q⟩ := h
  obtain ⟨t, u, rfl⟩ := Vals.int2 r
  have e1 : Nat.lcm 1 i.natAbs = i.natAbs := Nat.lcm_one_left _
  have m1 : (max 1 i.natAbs).log2 < 9000 := log_max (by decide) hi
  have m2 : (max i.natAbs j.natAbs).log2 < 9000 := log_max hi hj
  have m3 : (Nat.lcm i.natAbs j.natAbs).log2 < 18001 := by
    refine log_le (b := i.natAbs * j.natAbs) ?_ (log_mul hi hj)
    exact Nat.div_le_self _ _
  have g := PySem.W.mg_run_lcm i t j u (by omega) (by omega) (by rw [e1]; show _ < 2 ^ 27; rw [Int.natAbs_natCast]; exact Nat.lt_trans m3 (by decide))
  rw [e1] at g
  exact PySem.call_function_meets PySem.W.MGF.kind_lcm PySem.W.MGF.plain_lcm PySem.W.MGF.entry_lcm (PySem.W.MGF.args_lcm _ _) g.meets ⟨.int _, H, I.tok _, ⟨_, rfl⟩, q⟩
section
variable {P : Program} {w : World} {A : Around} {E : Value → Shared → Prop} {s : Shared}
/-- a new set, as it is made -/
abbrev so0 (w : World) : Obj := { cls := .type "set", dict := none, data := .set #[] 0 (.fresh 0 0 (!w.params.followText "set-order")) }
theorem set_of_list {l : Addr} {items : Array Value} (ns : List Int) {Q : Value → Shared → Prop} (hh : A.handled = none) (hl : s.heap.IsList l items) (hit : IntsAre items.toList ns) (hb : ns.length + 1 < scanBound)
    (h : ∀ (h' : Heap) (tk c : Nat), SetR w h' s.heap.objs.size (fun j => decide (j ∈ ns)) c → c ≤ ns.length → (∀ b o, s.heap.get? b = some o → h'.get? b = some o) → Q (.ref s.heap.objs.size) { s with heap := h', toks := tk }) : wpAny (model P w) A (call (.type "set") [.ref l]) Q E s := by
  have zi : items.size = ns.length := by rw [← Array.length_toList]; exact IntsAre.length hit
  obtain ⟨cm, tlm, hmro⟩ := F.called_set.mro
  have made := F.called_set.made; have isub := F.called_set.sub
  refine wpAny_call (codeAny_of_tree ?_); show wpAny _ _ (callAny (.type "set") _) _ _ _
  refine wpAny_pure ⟨Code.quiet_builtin _ (by decide +kernel), codeAny_builtin F.entry_type_call ?_⟩; rw [Around.under_plain (weight_type_call_type "set" [.ref l] []) rfl]
  have nt := F.called_set.notType; have cc := F.called_set.canCreate; have ct := F.typeCall_set_1 (.ref l)
  repeat (any_goals (first | assumption | wp_step))
  refine codeAny_mono (code_set_led1 (.ref l) (E := E) (Q₁ := fun obj s₁ => obj = .ref s.heap.objs.size ∧ s₁ = { s with heap := s.heap.push (so0 w) }) ⟨rfl, rfl⟩) fun r s₁ hr => ?_
  cases r with
  | error e => exact hr
  | ok fl =>
    cases fl with
    | ret obj =>
      obtain ⟨rfl, rfl⟩ := hr
      have hS : (s.heap.push (so0 w)).get? s.heap.objs.size = some (so0 w) := Heap.get?_push_size _ rfl
      have hT : Shared.TypeIs { s with heap := s.heap.push (so0 w) } (.ref s.heap.objs.size) "set" := ⟨_, hS, rfl⟩
      have li := F.called_set.init.lookup; have bi := F.called_set.init.bind (.ref s.heap.objs.size)
      repeat (any_goals (first | assumption | wp_step))
      refine codeAny_mono (codeAny_call_builtin (R := wants (fun r s₂ => r = .none ∧ ∃ h' tk c, s₂ = { s with heap := h', toks := tk } ∧ SetR w h' s.heap.objs.size (fun j => decide (j ∈ ns)) c ∧ c ≤ ns.length ∧ (∀ b o, s.heap.get? b = some o → h'.get? b = some o)) E) F.called_set.init.plain F.entry_set_init (check_set_init_1 hT ?_)) fun r₂ s₂ hr₂ => ?_
      · obtain ⟨ol, hol, hcl, nl, hdl⟩ := hl
        obtain ⟨ocls, odict, odata, oslots⟩ := ol
        simp only at hcl hdl; subst hcl; subst hdl
        have hol' : (s.heap.push (so0 w)).get? l = some { cls := .type "list", dict := odict, data := .seq items nl, slots := oslots } := Heap.get?_push_of_some _ hol
        have sb1 := F.sub_list_set; have sb2 := F.sub_list_frozenset
        have ne : (Value.type "list" == Value.type "dict") = false := by decide
        have hl1 : (s.heap.push (so0 w)).IsList l items := ⟨_, hol', rfl, nl, rfl⟩
        unfold Builtin.«set.__init__» noKeywords Builtin.Frozenset.updateFrom
        generalize hPI : pyIter = PI
        wp_walk
        subst hPI
        refine wpAny_pyIter_list hl1 ?_; refine wpAny_bind (wpAny_runValue ?_)
        have lS : l < s.heap.objs.size := Heap.lt_size hol
        have h3 : A.in1.in1.in1.handled = none := by simp [hh]
        have sz : (s.heap.push (so0 w)).objs.size = s.heap.objs.size + 1 := Heap.size_push ..
        have nI : l ≠ (s.heap.push (so0 w)).objs.size := by rw [sz]; exact Nat.ne_of_lt (Nat.lt_succ_of_lt lS)
        have fS : s.heap.objs.size ∉ [(s.heap.push (so0 w)).objs.size, l] := by
          rw [sz]; intro hm
          rcases List.mem_cons.mp hm with z | z
          · exact Nat.ne_of_lt (Nat.lt_succ_self _) z
          · exact Nat.ne_of_gt lS (List.mem_singleton.mp z)
        have val : ∀ (i : Nat) (v : Value), items[i]? = some v → ∃ k t, ns[i]? = some k ∧ v = .int k t := fun i v hv => by
          have hi : i < ns.length := by rw [← zi]; exact (Array.getElem?_eq_some_iff.mp hv).1
          obtain ⟨t, e⟩ := PyProof.Rows.IntsAre.int_at hit i v (by rw [Array.getElem?_toList]; exact hv)
          exact ⟨ns[i], t, List.getElem?_eq_getElem hi, by rw [e, List.getD_eq_getElem?_getD, List.getElem?_eq_getElem hi] <;> rfl⟩
        refine set_update_ints ((Walks.list h3 _ l nI items).toS) s.heap.objs.size fS ns zi hb val (items.size - 0) 0 _ (by omega) (Nat.zero_le _) ⟨⟨_, Heap.get?_push_size _ rfl, rfl, rfl⟩, hl1.push _⟩ ?st ?fin
        case st => exact ⟨0, Nat.le_refl 0, setR_new_at (Heap.get?_push_of_some _ hS)⟩
        case fin =>
          intro s' c' hm hc' hS'
          obtain ⟨h', g2, d', tk', os'⟩ := s'
          obtain rfl : g2 = s.gens := hm.gens
          obtain rfl : d' = s.drawn := hm.drawn
          obtain rfl : os' = s.os := hm.os
          show wpAny _ _ _ _ _ _
          refine wpAny_pure ?_; show wpAny _ _ (ret Value.none) _ _ _
          rw [zi] at hc'
          refine wpAny_pure ⟨rfl, h', tk', c', rfl, hS', hc', fun b o e => ?_⟩
          have b0 := Heap.lt_size e
          refine hm.heap b o ?_ (Heap.get?_push_of_some _ (Heap.get?_push_of_some _ e))
          intro hx
          rcases List.mem_cons.mp hx with z | z
          · exact Nat.ne_of_lt b0 z
          · have z := List.mem_singleton.mp z
            rw [z, sz] at b0
            exact absurd b0 (Nat.not_lt_of_le (Nat.le_succ _))
      · cases r₂ with
        | error e => exact hr₂
        | ok fl₂ =>
          cases fl₂ with
          | ret v₂ =>
            obtain ⟨rfl, h', tk, c, rfl, hR, hc, hk⟩ := hr₂
            repeat (any_goals (first | assumption | wp_step))
            exact h _ _ _ hR hc hk
          | _ => exact hr₂.elim
    | _ => exact hr.elim
end
/-! ints in order, each once -/
def insU (x : Int) : List Int → List Int
  | [] => [x]
  | y :: r => if x < y then x :: y :: r else if x = y then y :: r else y :: insU x r
def ssI (ns : List Int) : List Int := ns.foldr insU []
theorem mem_insU {x k : Int} : ∀ {l : List Int}, k ∈ insU x l ↔ k = x ∨ k ∈ l
  | [] => by simp [insU]
  | y :: r => by
    unfold insU
    split
    · simp
    · split
      · rename_i e; subst e; simp
      · rw [List.mem_cons, mem_insU, List.mem_cons]
        constructor
        · rintro (h | h | h)
          · exact .inr (.inl h)
          · exact .inl h
          · exact .inr (.inr h)
        · rintro (h | h | h)
          · exact .inr (.inl h)
          · exact .inl h
          · exact .inr (.inr h)
theorem insU_up {x : Int} : ∀ {l : List Int}, l.Pairwise (· < ·) → (insU x l).Pairwise (· < ·)
  | [], _ => by simp [insU]
  | y :: r, h => by
    obtain ⟨h1, h2⟩ := List.pairwise_cons.mp h
    unfold insU
    split
    · refine List.pairwise_cons.mpr ⟨fun z hz => ?_, h⟩
      rcases List.mem_cons.mp hz with e | hz
      · omega
      · have := h1 z hz; omega
    · split
      · exact h
      · refine List.pairwise_cons.mpr ⟨fun z hz => ?_, insU_up h2⟩
        rcases mem_insU.mp hz with e | hz
        · omega
        · exact h1 z hz
theorem mem_ssI {k : Int} : ∀ {ns : List Int}, k ∈ ssI ns ↔ k ∈ ns
  | [] => by simp [ssI]
  | n :: ns => by
    show k ∈ insU n (ssI ns) ↔ _
    rw [mem_insU, mem_ssI, List.mem_cons]
theorem ssI_up : ∀ {ns : List Int}, (ssI ns).Pairwise (· < ·)
  | [] => by simp [ssI]
  | n :: ns => insU_up (ssI_up (ns := ns))
theorem up_uniq : ∀ {xs ys : List Int}, xs.Pairwise (· < ·) → ys.Pairwise (· < ·) → (∀ k, k ∈ xs ↔ k ∈ ys) → xs = ys
  | [], [], _, _, _ => rfl
  | [], y :: ys, _, _, h => absurd ((h y).mpr List.mem_cons_self) (by simp)
  | x :: xs, [], _, _, h => absurd ((h x).mp List.mem_cons_self) (by simp)
  | x :: xs, y :: ys, h1, h2, h => by
    obtain ⟨a1, a2⟩ := List.pairwise_cons.mp h1
    obtain ⟨b1, b2⟩ := List.pairwise_cons.mp h2
    have e : x = y := by
      rcases List.mem_cons.mp ((h x).mp List.mem_cons_self) with e | e
      · exact e
      · rcases List.mem_cons.mp ((h y).mpr List.mem_cons_self) with e2 | e2
        · exact e2.symm
        · have := b1 x e; have := a1 y e2; omega
    subst e
    rw [up_uniq a2 b2 fun k => ?_]
    constructor
    · intro hk
      rcases List.mem_cons.mp ((h k).mp (List.mem_cons_of_mem _ hk)) with e | e
      · have := a1 k hk; omega
      · exact e
    · intro hk
      rcases List.mem_cons.mp ((h k).mpr (List.mem_cons_of_mem _ hk)) with e | e
      · have := b1 k hk; omega
      · exact e
section
variable {X : Cx}
def tSset (K : PySem.W.Frag) (ta : TE) : TE := fun σ H Q => ta σ H fun x H1 => ∃ (l : Addr) (ns : List Int), x = V.ref l ∧ SqL K H1 l (ns.map V.int) ∧ ns.length < 64 ∧ ∀ p, H1 p = none → Q (.ref p) (upd H1 p (.lst ((ssI ns).map V.int)))
theorem pe_sset {a : Expr} {ta : TE} {p p2 q pos : Pos} (hc : X.calm = true) (hg : Gl X "sorted") (hm : X.mg "sorted" = none) (hg2 : Gl X "set") (hm2 : X.mg "set" = none) (ha : PE X a ta)
    (na : starEach [a] X.env = (false, eval a X.env) :: starEach [] X.env) : PE X (.Call (.Name "sorted" p) [.Call (.Name "set" p2) [a] [] q] [] pos) (tSset X.K ta) := by
  refine ⟨fun pins s σ H Q I h => Call_ (ld_blt I hg hm (show bootBuiltins "sorted" = some (.builtin "sorted") by decide +kernel) (PyProof.Rows.callWith_builtin1 (PyProof.Rows.args_cons ?_ rfl) rfl rfl))⟩
  refine Call_ (ld_blt I hg2 hm2 PyProof.Rows.boot_set (PyProof.Rows.callWith_type1 (PyProof.Rows.args_cons (thn (ha.run pins s σ H _ I h) fun v s1 ⟨x, H1, I1, r1, q1⟩ => PyProof.Rows.args_nil ?_) na) na rfl))
  obtain ⟨l, ns, rfl, hq, hl, q1⟩ := q1
  cases r1
  obtain ⟨its, r, pl, hz⟩ := I1.list hq
  have hd := I1.ok.hd hc
  refine set_of_list ns hd pl.isList (by simpa using r.ints) (by unfold scanBound; omega) fun h' tk c R hcn k => PyProof.Rows.args_nil ?_
  have I2 : Inv X pins σ H1 { s1 with heap := h', toks := tk } := I1.kept k
  refine sorted_set (s := { s1 with heap := h', toks := tk }) R hd (by omega) fun s2 p out e us k2 g2 o2 hp hpo hi hup hmem hlen => ?_
  have eu : us = ssI ns := up_uniq hup ssI_up fun j => by rw [hmem, mem_ssI, decide_eq_true_eq]
  subst eu
  have J : Inv X pins σ (upd H1 p (.lst ((ssI ns).map V.int))) { s1 with heap := s2.heap, toks := s2.toks } := I2.laid (t' := s2.toks) k2 hp ⟨by rw [List.length_map, hlen, sizeLine_eq]; omega, out.toList, e, vals_of_ints hi, by rw [Array.toArray_toList]; exact hpo⟩
  exact ⟨.ref p, _, J.call' (s' := s2) (ch := []) o2 (Un.kept fun b u z => z) (J.hok.kept fun b u z => z) (by rw [g2]; exact I1.bare) (fun _ z => nomatch z), rfl, q1 p (I2.hok.fresh hp)⟩
end
end GM

set_option maxRecDepth 100000
set_option maxHeartbeats 1000000
/-! sorted of a list or a tuple: whole numbers, tuples of whole numbers of any lengths -/
namespace PySem.W
open PySem PySem.Calls PyProof.Rows
section
variable {prog : Program} {w : World} {A : Around} {E : Value → Shared → Prop} {s : Shared}
theorem collect_tup {l : Addr} {vs : List Value} {Q : List Value → Shared → Prop} (hl : s.heap.IsTuple l vs.toArray)
    (h : Q vs { s with heap := (s.heap.push (seqObj "list" #[] 0)).update s.heap.objs.size (Obj.mapSeq (· ++ vs.toArray)) }) (hsz : vs.length ≤ sizeLine) :
    wpAny (model prog w) A (collect (.ref l)) Q E s := by
  obtain ⟨o, ho, hc, n, hd⟩ := id hl
  unfold collect
  refine wpAny_bind (wpAny_runValue (codeAny_builtin entry_proto_collect' ?_))
  show wpAny _ _ (do again (.builtin "list.__iadd__" ⟨[← newList [], .ref l], []⟩)) _ _ s
  refine wpAny_bind (wpAny_newList (wpAny_pure ⟨Code.quiet_builtin _ (by decide +kernel), codeAny_builtin entry_list_iadd' ?_⟩))
  show wpAny _ _ (Builtin.List.listExtendWith (.ref s.heap.objs.size) (.ref l) (.ref s.heap.objs.size)) _ _ { s with heap := s.heap.push (seqObj "list" #[] 0) }
  unfold Builtin.List.listExtendWith
  have ho' : (s.heap.push (seqObj "list" #[] 0)).get? l = some o := Heap.get?_push_of_some _ ho
  refine wpAny_bind (wpAny_typeOf (T := "tuple") ⟨o, ho', hc⟩ ?_)
  have ht : (Value.type "tuple" == Value.type "tuple") = true := by rfl
  rw [if_pos (by rw [ht]; simp)]
  refine wpAny_bind (listItems_at ho' hd ?_)
  refine wpAny_bind (listItems_at (xs := #[]) (n := 0) (Heap.get?_push_size _ rfl) rfl ?_)
  rw [if_neg (by simp)]
  refine wpAny_bind (listUpdate_at (xs := #[]) (n := 0) (Heap.get?_push_size _ rfl) rfl ?_ (Nat.zero_le _) (by show (#[] ++ vs.toArray).size ≤ sizeLine + 1; simp only [Array.size_append, List.size_toArray, List.length_nil]; omega))
  refine wpAny_pure ?_
  show wpAny (model prog w) A (do
      let o ← load s.heap.objs.size
      match o.data with
      | .seq xs _ => pure xs.toList
      | _ => unsupported "internal:collect") Q E { s with heap := (s.heap.push (seqObj "list" #[] 0)).update s.heap.objs.size (Obj.mapSeq (· ++ vs.toArray)) }
  refine wpAny_bind (wpAny_load (get?_update_seq (Heap.get?_push_size _ rfl) _) ?_)
  show wpAny _ _ (pure ((#[] : Array Value) ++ vs.toArray).toList) Q E _
  rw [show ((#[] : Array Value) ++ vs.toArray).toList = vs by simp]
  exact wpAny_pure h
theorem sorted_valsT {κ : PyProof.Rows.KeyKind} {l : Addr} {vs : List Value} {Q : Value → Shared → Prop} (hl : s.heap.IsTuple l vs.toArray) (S : SortsAt prog w A.in1.in1 { s with heap := sortingHeap (copyHeap s.heap vs) (s.heap.objs.size + 1) vs } κ vs) (hL : vs.length ≤ sizeLine)
    (h : Q (.ref (s.heap.objs.size + 1)) { s with heap := sortedAll s.heap vs (sortVals κ false vs vs).toArray }) : wpAny (model prog w) A (call (.builtin "sorted") [.ref l]) Q E s := by
  refine call_function_entry_kw kind_sorted plain_sorted entry_sorted (args_sorted1 _) ?_
  unfold Builtin.«sorted»
  refine wpAny_bind (m := checkCount "sorted" 1 1 _) (wpAny_pure ?_)
  refine wpAny_bind (collect_tup hl ?_ hL)
  refine wpAny_bind (wpAny_newList ?_ hL)
  have hsz : ((s.heap.push (seqObj "list" #[] 0)).update s.heap.objs.size (Obj.mapSeq (· ++ vs.toArray))).objs.size = s.heap.objs.size + 1 := by
    rw [Heap.size_update, size_push']
  show wpAny _ _ _ _ _ { s with heap := copyHeap s.heap vs }
  rw [hsz]
  refine wpAny_bind (wpAny_holding (wpAny_call_entry_kw slot_list_sort ⟨_, copyHeap_at s.heap vs, rfl⟩ entry_list_sort ?body (args_list_sort _)))
  case body =>
    show wpAny (model prog w) A.in1.in1 (Builtin.«list.sort» ⟨[.ref (s.heap.objs.size + 1)], []⟩) _ _ _
    refine wpAny_mono (list_sort_vals (s := { s with heap := copyHeap s.heap vs }) (copyHeap_at s.heap vs) S hL (P := fun f s' => f = .done (.ret .none) ∧ Q (.ref (s.heap.objs.size + 1)) s') ⟨rfl, h⟩) (fun f s' hf => ?_) fun _ _ e => e
    obtain ⟨rfl, hq⟩ := hf
    exact ⟨_, rfl, wpAny_pure ⟨_, rfl, hq⟩⟩
end
/-! tuples of ints, some of them empty -/
def IsTupI (h : Heap) (v : Value) (ns : List Int) : Prop :=
  ∃ (a : Addr) (dd : Option Addr) (items : Array Value) (n : Nat) (sl : Array (Option Value)), v = .ref a ∧ h.get? a = some { cls := .type "tuple", dict := dd, data := .seq items n, slots := sl } ∧ IntsAre items.toList ns
theorem ints_reads {h : Heap} : ∀ {ns : List Int} {vs : List Value} {as : List Addr}, ReadsAll h vs (ns.map PyData.int) as → IntsAre vs ns
  | [], _, _, r => by cases r; exact .nil
  | n :: ns, _, _, r => by
    cases r with
    | cons r1 r2 => cases r1; exact .cons _ _ (ints_reads r2)
theorem reads_tupI {h : Heap} {v : Value} {ns : List Int} {as : List Addr} (r : Reads h v (.tuple (ns.map PyData.int)) as) : IsTupI h v ns := by
  cases r with
  | @tuple a o xs n _ _ ho hc hd hr =>
    obtain ⟨cls, dd, data, sl⟩ := o
    simp only at hc hd
    subst hc; subst hd
    exact ⟨a, dd, xs, n, sl, rfl, ho, ints_reads hr⟩
theorem IsTupI.type {M : Model} {h : Heap} {v : Value} {ns : List Int} (x : IsTupI h v ns) : Looks M h (typeOf v) (.type "tuple") := by
  obtain ⟨a, dd, items, n, sl, rfl, g, i⟩ := x
  exact (Looks.ld g).andThen .now
theorem lexLt_dec : ∀ ns ms : List Int, HT.lexLt ns ms = decide (ns < ms)
  | [], [] => by decide
  | [], m :: ms => by rw [HT.lexLt_nil_cons]; simp
  | n :: ns, [] => by rw [HT.lexLt_cons_nil]; simp
  | n :: ns, m :: ms => by
    rw [HT.lexLt_cons, lexLt_dec ns ms]
    by_cases e : n = m
    · subst e; simp [List.cons_lt_cons_iff]
    · rw [if_neg e]; simp [List.cons_lt_cons_iff, e]
section
variable {prog : Program} {w : World} {A : Around} {E : Value → Shared → Prop} {s : Shared}
theorem call_ltT {a b : Addr} {dd dd2 : Option Addr} {items items2 : Array Value} {n n2 : Nat} {sl sl2 : Array (Option Value)} {ns ms : List Int} {Q : Value → Shared → Prop} (ga : s.heap.get? a = some { cls := .type "tuple", dict := dd, data := .seq items n, slots := sl })
    (gb : s.heap.get? b = some { cls := .type "tuple", dict := dd2, data := .seq items2 n2, slots := sl2 }) (ia : IntsAre items.toList ns) (ib : IntsAre items2.toList ms) (iv : Looks (model prog w) s.heap (isInstance (.ref a) (.type "tuple")) true)
    (iu : ∀ M : Model, Looks M s.heap (isInstance (.ref b) (.type "tuple")) true) (h : Q (.bool (HT.lexLt ns ms)) s) : wpAny (model prog w) A (call (.builtin "tuple.__lt__") [.ref a, .ref b]) Q E s := by
  refine wpAny_call (codeAny_call_builtin PySem.F.slot_tuple_lt.plain PySem.F.entry_tuple_lt (@check_slot (model prog w) _ _ _ "tuple.__lt__" "tuple" "__lt__" (.ref a) [.ref b] [] _ (by decide +kernel) (by decide +kernel) iv (PySem.F.args_tuple_lt_2 _ _) ?_))
  refine wpAny_mono (NtL.nt_lt_ints a b (.type "tuple") (.type "tuple") items items2 n n2 dd dd2 sl sl2 ns ms ia ib prog w _ (wants Q E) s ⟨ga, gb, iu, h⟩) (fun fin s' q => ?_) fun _ _ z => z
  cases fin with
  | done f => exact q
  | again c => exact q
theorem lt_tupI {v u : Value} {ns ms : List Int} {Q : Bool → Shared → Prop} (hu : A.units < cLine) (hv : IsTupI s.heap v ns) (hw : IsTupI s.heap u ms) (h : Q (HT.lexLt ns ms) s) : wpAny (model prog w) A (keyLt' oneType' v u) Q E s := by
  have tv : Looks (model prog w) s.heap (typeOf v) (.type "tuple") := hv.type
  have sp : Looks (model prog w) s.heap (specialOf v "__lt__") (some (.builtin "tuple.__lt__")) := tv.andThen (Looks.of_pure PySem.F.slot_tuple_lt.lookup)
  have iv : Looks (model prog w) s.heap (isInstance v (.type "tuple")) true := tv.andThen (Looks.of_pure isSubtype_tuple_tuple)
  have iu : ∀ M : Model, Looks M s.heap (isInstance u (.type "tuple")) true := fun M => (hw.type (M := M)).andThen (Looks.of_pure isSubtype_tuple_tuple)
  obtain ⟨a, dd, items, n, sl, rfl, ga, ia⟩ := hv
  obtain ⟨b, dd2, items2, n2, sl2, rfl, gb, ib⟩ := hw
  rw [keyLt'_oneType, oneLt'_eq]
  simp only [if_true]
  refine wpAny_bind (wpAny_cRoomFor hu ?_)
  refine wpAny_bind (NtL.csib (E := E) sp (PySem.F.slot_tuple_lt.bind _) (call_ltT ga gb ia ib iv iu (wpAny_truthy_bool h)))

/-- the firsts of tuples, one of which may be none -/
theorem firsts_any {M : Model} {A : Around} {E : Value → Shared → Prop} : ∀ {vs : List Value} {bs : List (List Int)}, EachIs (fun v b => IsTupI s.heap v b) vs bs →
    ∃ fs : List (Option Value), EachIs (fun f b => f.isSome = !b.isEmpty) fs bs ∧ ∀ Q : List (Option Value) → Shared → Prop, Q fs s → wpAny M A (vs.mapM firstOfTuple') Q E s
  | _, _, .nil => ⟨[], .nil, fun Q h => by rw [List.mapM_nil]; exact wpAny_pure h⟩
  | _, _, .cons (b := b) ⟨a, dd, items, n, sl, e, g, ia⟩ t => by
    obtain ⟨fs, h1, h2⟩ := firsts_any (M := M) (A := A) (E := E) t
    subst e
    refine ⟨items[0]? :: fs, .cons ?_ h1, fun Q h => ?_⟩
    · rw [← Array.getElem?_toList]
      revert ia
      generalize items.toList = l
      intro ia
      cases ia <;> rfl
    · rw [List.mapM_cons]
      refine wpAny_bind ?_
      rw [kas_first_eq]
      refine wpAny_bind (Looks.here (show Looks M s.heap (typeOf (.ref a)) (.type "tuple") from (Looks.ld g).andThen .now) ?_)
      rw [if_neg (by first | decide | simp)]
      refine wpAny_bind (listItems_at g rfl (wpAny_pure ?_))
      exact wpAny_bind (h2 (fun bs s' => wpAny M A (pure (items[0]? :: bs)) Q E s') (wpAny_pure h))
theorem kind_tups {M : Model} {A : Around} {E : Value → Shared → Prop} {vs : List Value} {b0 : List Int} {bs : List (List Int)} {Q : SortKind → Shared → Prop} (e : EachIs (fun v b => IsTupI s.heap v b) vs (b0 :: bs)) (h0 : [] ∈ b0 :: bs)
    (h : Q (if b0 = [] then oneType' else general') s) : wpAny M A (keyKind' vs.toArray) Q E s := by
  obtain ⟨fs, h1, h2⟩ := firsts_any (M := M) (A := A) (E := E) e
  rw [kat_kind_eq, List.mapM_toArray, map_eq_pure_bind]
  refine wpAny_bind (wpAny_bind (h2 _ (wpAny_pure ?_)))
  obtain ⟨f, hf, hfe⟩ : ∃ f ∈ fs, f.isSome = false := by
    clear h2 e h
    generalize b0 :: bs = ys at h0 h1
    induction h1 with
    | nil => cases h0
    | cons a t ih =>
      rcases List.mem_cons.mp h0 with z | z
      · subst z; exact ⟨_, List.mem_cons_self, a⟩
      · obtain ⟨f, m, x⟩ := ih z; exact ⟨f, List.mem_cons_of_mem _ m, x⟩
  have hall : (fs.toArray.all fun x => x.isSome) = false := by
    rw [List.all_toArray, List.all_eq_false]
    exact ⟨f, hf, by rw [hfe]; exact Bool.false_ne_true⟩
  rw [hall, if_neg Bool.false_ne_true]
  clear hall hf hfe f h2
  cases h1 with
  | @cons f0 _ fs _ g1 g2 =>
  have e0 : ((f0 :: fs).toArray[0]?.bind id) = f0 := by simp
  rw [e0]
  cases b0 with
  | cons n ns =>
    have g : f0.isSome = true := g1
    rw [g, if_pos rfl]
    rw [if_neg (by simp)] at h
    exact wpAny_pure h
  | nil =>
    have g : f0.isSome = false := g1
    rw [if_pos rfl] at h
    rw [g, if_neg Bool.false_ne_true]
    rw [oneTypeOnly'_eq, List.mapM_toArray, map_eq_pure_bind]
    refine wpAny_bind (wpAny_bind (wpAny_bind (kas_mapM (r := Value.type "tuple") _ (fun v hv Q' hq => ?_) (wpAny_pure ?_))))
    · obtain ⟨b, _, x⟩ := e.left v hv
      exact x.type.here hq
    · have hall2 : ((List.map (fun _ => Value.type "tuple") vs).toArray.all fun x => x == Value.type "tuple") = true := by
        simp only [List.all_toArray, List.all_map, List.all_eq_true]
        intro _ _
        exact beq_self_eq_true _
      have hv : ∃ v vs', vs = v :: vs' := by cases e; exact ⟨_, _, rfl⟩
      obtain ⟨v, vs', rfl⟩ := hv
      have h0 : (List.map (fun _ => Value.type "tuple") (v :: vs')).toArray[0]? = some (Value.type "tuple") := by simp
      rw [h0]
      simp only [hall2, if_true]
      exact wpAny_pure (wpAny_pure h)
theorem depth_rows (b : List Int) : (PyData.tuple (b.map PyData.int)).depth ≤ 1 := by
  show PyData.depthAll (b.map PyData.int) + 1 ≤ 1
  rw [depth_ints]; exact Nat.le_refl _
/-- tuples of whole numbers can be sorted -/
theorem SortsAt.tups {vs : List Value} {bs : List (List Int)} (e : EachIs (fun v b => ∃ as, Reads s.heap v (.tuple (b.map PyData.int)) as) vs bs) (hu : A.units + 1 < cLine) :
    SortsAt prog w A s (dataKind s.heap (bs.map fun b => .tuple (b.map PyData.int))) vs := by
  have hal : AllAlike (bs.map fun b => PyData.tuple (b.map PyData.int)) := AllAlike.of fun b b' => by show alikeAll _ _ = true; exact alike_ints b b'
  have room : ∀ b : List Int, A.units + (PyData.tuple (b.map PyData.int)).depth < cLine := fun b => by have := depth_rows b; omega
  by_cases hall : [] ∈ bs
  · refine ⟨fun v hv => ?_, ?_⟩
    · obtain ⟨b, hb, as, r⟩ := e.left v hv
      exact ⟨_, dataKind_some hal (List.mem_map_of_mem hb) r⟩
    · cases bs with
      | nil => cases hall
      | cons b0 bs0 =>
        refine ⟨if b0 = [] then oneType' else general', ?_, fun h2 E Q hq => ?_⟩
        · intro E x y a b Q ha hb hq
          obtain ⟨d, as, hd, ra, rfl⟩ := dataKind_inv ha
          obtain ⟨d', as', hd', rb, rfl⟩ := dataKind_inv hb
          obtain ⟨ns, _, rfl⟩ := List.mem_map.mp hd
          obtain ⟨ms, _, rfl⟩ := List.mem_map.mp hd'
          have hq' : Q (dataLt (.tuple (ns.map PyData.int)) (.tuple (ms.map PyData.int))) s := hq
          split
          · refine lt_tupI (by omega) (reads_tupI ra) (reads_tupI rb) ?_
            rw [dataLt_tuple] at hq'
            have z : Q (rowLt (ns.map PyData.int) (ms.map PyData.int)) s := hq'
            rw [dataLt_ints] at z
            rw [lexLt_dec]
            exact z
          · show wpAny _ A (oneLt' false x y) Q E s
            refine oneLt_alike (fun h => by cases h) ra rb (hal _ hd _ hd') (by simp) ?_ hq'
            have := room ns
            have := Nat.min_le_left (PyData.tuple (ns.map PyData.int)).depth (PyData.tuple (ms.map PyData.int)).depth
            omega
        · exact kind_tups (e.mono fun _ _ ⟨as, r⟩ => reads_tupI r) hall hq
  · refine SortsAt.data (each_map (R := fun v d => ∃ as, Reads s.heap v d as) _ e) hal (.inl fun d hd => ?_) (bound_map (bs := bs) fun b _ => room b)
    obtain ⟨b, hb, rfl⟩ := List.mem_map.mp hd
    cases b with
    | nil => exact absurd hb hall
    | cons n ns => exact ⟨_, _, rfl⟩
theorem SortsAt.ints {vs : List Value} {bs : List Int} (e : EachIs (fun v b => ∃ as, Reads s.heap v (.int b) as) vs bs) (hu : A.units + 1 < cLine) :
    SortsAt prog w A s (dataKind s.heap (bs.map PyData.int)) vs :=
  SortsAt.data (each_map (R := fun v d => ∃ as, Reads s.heap v d as) _ e) (AllAlike.of fun b b' => rfl) (Sortable.others fun b => ⟨by simp, by simp⟩) (bound_map (bs := bs) fun b _ => by show A.units + 0 < cLine; omega)
end
end PySem.W
namespace L2
open PySem PySem.Spec PyProof.Rows PySem.W
/-- sorted(x), x a list or a tuple of things that stand for bs -/
def rSortX (K : PySem.W.Frag) {β : Type} (enc : β → PyData) (P : V → β → Prop) : List V → Hp → VK → Prop := fun vs H Q => ∃ (a : Addr) (xs : List V) (bs : List β), vs = [V.ref a] ∧ (SqL K H a xs ∨ SqT K H a xs) ∧ EachIs P xs bs ∧ (∀ v b, P v b → Dp K H v (enc b)) ∧
  ∀ ys p, EachIs P ys (bs.mergeSort (dataLe false enc)) → H p = none → Q (.ref p) (upd H p (.lst ys))
theorem each_vals {β : Type} {P : V → β → Prop} : ∀ {us : List Value} {bs : List β}, EachIs (fun u b => ∃ v, RelV v u ∧ P v b) us bs → ∃ ys, Vals ys us ∧ EachIs P ys bs
  | _, _, .nil => ⟨[], .nil, .nil⟩
  | _, _, .cons ⟨v, r, p⟩ t => by
    obtain ⟨ys, h1, h2⟩ := each_vals t
    exact ⟨v :: ys, .cons r h1, .cons p h2⟩
theorem each_join {β : Type} {P : V → β → Prop} : ∀ {xs : List V} {us : List Value} {bs : List β}, Vals xs us → EachIs P xs bs → EachIs (fun u b => ∃ v, RelV v u ∧ P v b) us bs
  | _, _, _, .nil, .nil => .nil
  | _, _, _, .cons r t, .cons p q => .cons ⟨_, r, p⟩ (each_join t q)
section
variable {X : Cx}
theorem cr_sortX {β : Type} {enc : β → PyData} {P : V → β → Prop} (hal : ∀ b b', alike (enc b) (enc b') = true)
    (hS : ∀ (A : Around) (s : Shared) (vs : List Value) (bs : List β), A.units + 1 < cLine → EachIs (fun v b => ∃ as, Reads s.heap v (enc b) as) vs bs → SortsAt X.prog X.w A s (dataKind s.heap (bs.map enc)) vs) (hu : X.A.units + 65 < cLine) : CallR X (.builtin "sorted") (rSortX X.K enc P) := by
  intro pins s σ H vs us Q I r h
  obtain ⟨a, xs, bs, rfl, hs, hp, hdp, q⟩ := h
  rw [Vals.ref1 r]
  have main : ∀ its : List Value, Vals xs its → its.length ≤ sizeLine →
      (∀ (κ : PyProof.Rows.KeyKind) (Q : Value → Shared → Prop), SortsAt X.prog X.w X.A.in1.in1 { s with heap := sortingHeap (copyHeap s.heap its) (s.heap.objs.size + 1) its } κ its → Q (.ref (s.heap.objs.size + 1)) { s with heap := sortedAll s.heap its (sortVals κ false its its).toArray } →
        wpAny (model X.prog X.w) X.A (call (.builtin "sorted") [.ref a]) Q X.xe s) →
      wpAny (model X.prog X.w) X.A (call (.builtin "sorted") [.ref a]) (fun v s1 => ∃ x H1, Inv X pins σ H1 s1 ∧ RelV x v ∧ Q x H1) X.xe s := by
    intro its rv hz go
    have e0 := each_join rv hp
    have e : EachIs (fun u b => ∃ v, RelV v u ∧ P v b) its bs := e0
    have er' : EachIs (fun u b => ∃ as, Reads (sortingHeap (copyHeap s.heap its) (s.heap.objs.size + 1) its) u (enc b) as) its bs := e0.mono fun u b ⟨v, r, p⟩ => by
      obtain ⟨as, rd⟩ := Dp.reads I (enc b) v u (hdp v b p) r
      exact ⟨as, PyProof.Rows.Reads.keeps (fun _ _ => sorting_copy_old) rd⟩
    have so := sortVals_data (R := fun u b => ∃ v, RelV v u ∧ P v b) false e er' (AllAlike.of hal)
    obtain ⟨ys, y1, y2⟩ := each_vals so
    refine go _ _ (hS _ _ _ _ (by show X.A.units + 2 + 1 < cLine; omega) er') ?_
    obtain ⟨ep, he'⟩ := PyProof.Rows.sortedAll_at s.heap its (sortVals (dataKind (sortingHeap (copyHeap s.heap its) (s.heap.objs.size + 1) its) (bs.map enc)) false its its).toArray
    have hlen : ys.length ≤ sizeLine := by
      rw [y1.length, sortVals_length false rfl]; exact hz
    exact ⟨.ref _, upd H (s.heap.objs.size + 1) (.lst ys), I.laid (t' := s.toks) (fun _ _ => PyProof.Rows.sortedAll_old) (Nat.le_succ _) ⟨hlen, _, ep, y1, he'⟩, rfl, q _ _ y2 (I.hok.fresh (Nat.le_succ _))⟩
  rcases hs with hs | hs
  · obtain ⟨its, rv, hl, hz⟩ := I.list hs
    have hz' : its.length ≤ sizeLine := by rw [← rv.length]; exact hz
    exact main its rv hz' fun κ Q S h => sorted_vals hl.isList S hz' h
  · obtain ⟨its, rv, hT, hz⟩ := I.tuple hs
    have hz' : its.length ≤ sizeLine := by rw [← rv.length]; exact hz
    exact main its rv hz' fun κ Q S h => sorted_valsT hT S hz' h
end
end L2
namespace L2
open PySem PySem.Spec PyProof.Rows PySem.W
/-! a list of whole numbers of which no more is told: it may be changed while all else is frozen -/
def JL (b : Addr) : HO := .ext fun h => ∃ (its : List Value) (ns : List Int) (n : Nat), ns.length ≤ sizeLine ∧ IntsAre its ns ∧ h.get? b = some { cls := .type "list", data := .seq its.toArray n }
section
variable {X : Cx} {pins : List (Addr × Obj)} {σ : St} {H : Hp} {s : Shared} {b : Addr}
theorem reveal (I : Inv X pins σ H s) (hb : H b = some (JL b)) : ∃ ns : List Int, ns.length ≤ sizeLine ∧ Inv X pins σ (upd H b (.lst (ns.map V.int))) s := by
  obtain ⟨⟨its, ns, n, hl, hi, hg⟩, _, _⟩ := I.hok b _ hb
  refine ⟨ns, hl, ?_⟩
  exact Inv.write (t' := s.toks) (h' := s.heap) (o := .lst (ns.map V.int)) I (by rw [hb]; exact True.intro) (.inl rfl) (fun _ _ _ e => e) ⟨_, hg⟩ ⟨by rw [List.length_map]; exact hl, its, n, vals_of_ints hi, hg⟩
theorem hide {ns : List Int} (I : Inv X pins σ H s) (hb : H b = some (.lst (ns.map V.int))) : Inv X pins σ (upd H b (JL b)) s := by
  obtain ⟨hl, its, n, rv, hg⟩ := I.hok b _ hb
  refine Inv.write (t' := s.toks) (h' := s.heap) (o := JL b) I (by rw [hb]; exact True.intro) (.inl rfl) (fun _ _ _ e => e) ⟨_, hg⟩ ⟨⟨its, ns, n, by simpa using hl, rv.ints, hg⟩, ⟨_, hg⟩, fun h1 h2 p k => ?_⟩
  obtain ⟨its, ns, n, p1, p2, p3⟩ := p
  exact ⟨its, ns, n, p1, p2, k _ p3⟩
theorem upd_self {o : HO} (h : H b = some o) {u : HO} : upd (upd H b u) b o = H := by
  rw [upd_upd]
  funext c
  by_cases e : c = b
  · subst e; rw [upd_same, h]
  · rw [upd_ne e]
end
end L2
namespace HT
open PySem PySem.Spec PyProof.Rows PySem.W
section
variable {prog : Program} {w : World} {A : Around} {E : Value → Shared → Prop} {s : Shared}
theorem adjust_rev (n : Nat) : Builtin.Slice.sliceAdjust none none (-1) (n : Int) = ((n : Int) - 1, -1) := by
  first
    | rfl
    | simp [Builtin.Slice.sliceAdjust]
theorem places_rev (n : Nat) : Builtin.Slice.slicePlaces ((n : Int) - 1) (-1) (-1) = n := by
  unfold Builtin.Slice.slicePlaces
  simp
  omega
theorem slicePart_m1 {t : Tok} {Q : Option Int → Shared → Prop} (h : Q (some (-1)) s) : wpAny (model prog w) A (Builtin.Slice.slicePartIndex (.int (-1) t)) Q E s := slicePart_int h
theorem sliceApplied_rev {sl : Addr} {vl vu vs : Value} {n : Nat} {Q : Int × Int × Nat → Shared → Prop} (hs : s.heap.IsSliceOf sl vl vu vs) (pl : IsPart vl none) (pu : IsPart vu none) (ps : IsPart vs (some (-1)))
    (h : Q ((n : Int) - 1, -1, n) s) : wpAny (model prog w) A (Builtin.Slice.sliceApplied (.ref sl) (pure (n : Int))) Q E s := by
  obtain ⟨os, hos, hcs, hds⟩ := id hs
  unfold Builtin.Slice.sliceApplied Builtin.Slice.sliceFields
  refine wpAny_bind (wpAny_bind (wpAny_field hos hds (x := vl) rfl (wpAny_bind (wpAny_field hos hds (x := vu) rfl (wpAny_bind (wpAny_field hos hds (x := vs) rfl (wpAny_pure ?_)))))))
  refine wpAny_bind (slicePart_ ps ?_)
  show wpAny _ _ (if ((-1 : Int) == 0) = true then _ else _) _ _ s
  rw [if_neg (by decide)]
  refine wpAny_bind (slicePart_ pl (wpAny_bind (slicePart_ pu (wpAny_bind (wpAny_pure ?_)))))
  show wpAny _ _ (match Builtin.Slice.sliceAdjust none none (-1) (n : Int) with | (lo, hi) => pure (lo, (-1 : Int), Builtin.Slice.slicePlaces lo hi (-1))) _ _ s
  rw [adjust_rev]
  show wpAny _ _ (pure (((n : Int) - 1), (-1 : Int), Builtin.Slice.slicePlaces ((n : Int) - 1) (-1) (-1))) _ _ s
  rw [places_rev]
  exact wpAny_pure h
theorem fm_congr {α β : Type} {f g : α → Option β} : ∀ {l : List α}, (∀ x ∈ l, f x = g x) → l.filterMap f = l.filterMap g
  | [], _ => rfl
  | x :: l, h => by
    rw [List.filterMap_cons, List.filterMap_cons, h x List.mem_cons_self, fm_congr fun y hy => h y (List.mem_cons_of_mem _ hy)]
theorem pick_rev (xs : Array Value) : ((List.range xs.size).filterMap fun (m : Nat) => xs[(((xs.size : Int) - 1) + (m : Int) * (-1)).toNat]?).toArray = xs.toList.reverse.toArray := by
  rw [← krv_pick]
  unfold slicePick
  rw [krv_bounds]
  show _ = ((sliceRange ((xs.size : Int) - 1) (-1) (-1)).filterMap (xs[·]?)).toArray
  rw [krv_sliceRange, List.filterMap_map]
  congr 1
  refine fm_congr fun m hm => ?_
  have := List.mem_range.mp hm
  show xs[(((xs.size : Int) - 1) + (m : Int) * (-1)).toNat]? = xs[xs.size - 1 - m]?
  congr 1
  omega
theorem getItem_tuple_rev {t sl : Addr} {items : Array Value} {vl vu vs : Value} {Q : Value → Shared → Prop} (ht : IsTup s.heap t items) (hs : s.heap.IsSliceOf sl vl vu vs) (pl : IsPart vl none) (pu : IsPart vu none) (ps : IsPart vs (some (-1)))
    (h : Q (.ref s.heap.objs.size) { s with heap := s.heap.push { cls := .type "tuple", data := .seq items.toList.reverse.toArray } }) (hsz : items.size ≤ sizeLine) : wpAny (model prog w) A (getItem (.ref t) (.ref sl)) Q E s := by
  have htake : sizeOk (.seq items.toList.reverse.toArray) := by
    show items.toList.reverse.toArray.size ≤ sizeLine
    simpa using hsz
  obtain ⟨os, hos, hcs, hds⟩ := id hs
  have hTs : s.TypeIs (.ref sl) "slice" := ⟨os, hos, hcs⟩
  unfold getItem
  try with_reducible refine wpAny_holding ?_
  first | refine wpAny_bind (wpAny_pure ?_) | skip
  refine wpAny_bind (wpAny_sequenceKey ht.typeIs (by decide) ?_)
  refine wpAny_bind (wpAny_callSpecial?_slot (name := Str.ofString "__getitem__") ht.typeIs PyProof.Rows.slot_tuple_getitem
    (wpAny_call_entry PyProof.Rows.slot_tuple_getitem ht.typeIs entry_tuple_getitem ?_ (args_tuple_getitem _ _)))
  show wpAny _ _ (Builtin.Tuple.tupleItemsOf (.ref t) >>= _) _ _ s
  refine wpAny_bind (tupleItemsOf_ ht ?_)
  refine wpAny_bind (wpAny_typeOf hTs ?_)
  rw [if_pos (by decide)]
  refine wpAny_bind (sliceApplied_rev hs pl pu ps ?_)
  have hno : ¬ ((((items.size : Int) - 1) == 0 && (-1 : Int) == 1 && items.size == items.size) = true) := by
    intro q
    rw [Bool.and_eq_true, Bool.and_eq_true] at q
    have q1 : (-1 : Int) = 1 := eq_of_beq q.1.2
    exact absurd q1 (by decide)
  show wpAny _ _ (if (((items.size : Int) - 1) == 0 && (-1 : Int) == 1 && items.size == items.size) = true then _ else _) _ _ s
  rw [if_neg hno, pick_rev]
  first
    | exact wpAny_bind (m := Builtin.Tuple.tupleExact _) (wpAny_newObj_type (wpAny_pure ⟨_, rfl, wpAny_pure h⟩) htake)
    | exact wpAny_bind (m := Builtin.Tuple.tupleExact _) (wpAny_newObj_type (wpAny_bind (wpAny_pure (wpAny_pure ⟨_, rfl, wpAny_pure h⟩))) htake)
    | exact wpAny_bind (wpAny_bind (m := Builtin.Tuple.tupleExact _) (wpAny_newObj_type (wpAny_pure (wpAny_pure ⟨_, rfl, wpAny_pure h⟩)) htake))
    | exact wpAny_bind (wpAny_bind (m := Builtin.Tuple.tupleExact _) (wpAny_newObj_type (wpAny_pure ⟨_, rfl, wpAny_pure h⟩) htake))
end
end HT
namespace L2
open PySem PySem.Spec PyProof.Rows PySem.W
/-- x[::-1], x a list or a tuple -/
def tRevX (K : PySem.W.Frag) (te : TE) : TE := fun σ H Q => te σ H fun x H1 => (∃ a xs, x = .ref a ∧ SqL K H1 a xs ∧ ∀ p, H1 p = none → Q (.ref p) (upd H1 p (.lst xs.reverse))) ∨
  ∃ a xs, x = .ref a ∧ SqT K H1 a xs ∧ ∀ p, H1 p = none → Q (.ref p) (upd H1 p (.tup xs.reverse))
theorem pe_revX {X : Cx} {e : Expr} {te : TE} {k : Nat} {p1 p2 p3 pos : Pos} (he : PE X e te) : PE X (.Subscript e (.Slice none none (some (.UnaryOp .USub (.Constant (.int 1) k p1) p2)) p3) pos) (tRevX X.K te) := by
  refine ⟨fun pins s σ H Q I h => ?_⟩
  refine Subscript_ (thn (he.run pins s σ H _ I h) fun v s1 ⟨x, H1, I1, r1, q1⟩ => ?_)
  have hst : PO X (some (.UnaryOp .USub (.Constant (.int 1) k p1) p2)) (tPart (tUn (rU fun i => .int (-i)) (tC (.int 1)))) := po_some (pe_un un_neg pe_int)
  refine wpAny_Slice (thn (po_none.run pins s1 σ H1 (fun o H2 => o = none ∧ H2 = H1) I1 ⟨rfl, rfl⟩) fun vl s2 ⟨l, H2, I2, pl, el, e2⟩ => ?_)
  subst el e2
  refine thn (po_none.run pins s2 σ H2 (fun o H3 => o = none ∧ H3 = H2) I2 ⟨rfl, rfl⟩) fun vu s3 ⟨u, H3, I3, pu, eu, e3⟩ => ?_
  subst eu e3
  refine thn (hst.run pins s3 σ H3 (fun o H4 => o = some (-1) ∧ H4 = H3) I3 ⟨1, rfl, -1, rfl, rfl, rfl⟩) fun vs s4 ⟨o, H4, I4, ps, eo, e4⟩ => ?_
  subst eo e4
  have I5 : Inv X pins σ H4 { s4 with heap := s4.heap.push { cls := .type "slice", data := .fields #[vl, vu, vs] } } := I4.kept (t' := s4.toks) fun b ob q => Heap.get?_push_of_some _ q
  rcases q1 with q1 | q1
  · obtain ⟨a, xs, ex, hx, q⟩ := q1
    subst ex
    cases r1
    obtain ⟨its, r, ht, hz⟩ := I5.list hx
    have hlen := r.length
    show wpAny (model X.prog X.w) X.A (subscriptTail e (.Slice none none (some (.UnaryOp .USub (.Constant (.int 1) k p1) p2)) p3) (.ref a) (.ref s4.heap.objs.size)) (EP X pins σ Q) X.xe { s4 with heap := s4.heap.push { cls := .type "slice", data := .fields #[vl, vu, vs] } }
    refine tail_any (ops := [.ref a, .ref s4.heap.objs.size]) ht.isList.typeIs (PySem.slot_list_getitem.lookup) ?_ (by with_unfolding_all rfl)
    refine wpAny_getItem_list_slice ht.isList (Heap.IsSliceOf.new _ vl vu vs) pl pu ps (by decide) ?_ (by rw [List.size_toArray]; omega)
    rw [PySem.W.krv_pick]
    refine ⟨.ref _, _, I5.laid (t' := s4.toks) (o := .lst xs.reverse) (fun b ob q => Heap.get?_push_of_some _ q) (Nat.le_refl _) ?_, rfl, q _ (I5.hok.fresh (Nat.le_refl _))⟩
    exact ⟨by rw [List.length_reverse]; exact hz, _, 0, r.reverse, Heap.get?_push_size _ rfl⟩
  · obtain ⟨a, xs, ex, hx, q⟩ := q1
    subst ex
    cases r1
    obtain ⟨its, r, ht, hz⟩ := I5.tuple hx
    have hlen := r.length
    show wpAny (model X.prog X.w) X.A (subscriptTail e (.Slice none none (some (.UnaryOp .USub (.Constant (.int 1) k p1) p2)) p3) (.ref a) (.ref s4.heap.objs.size)) (EP X pins σ Q) X.xe { s4 with heap := s4.heap.push { cls := .type "slice", data := .fields #[vl, vu, vs] } }
    refine tail_any (ops := [.ref a, .ref s4.heap.objs.size]) ht.typeIs (PyProof.Rows.slot_tuple_getitem.lookup) ?_ (by with_unfolding_all rfl)
    refine HT.getItem_tuple_rev ht (Heap.IsSliceOf.new _ vl vu vs) pl pu ps ?_ (by rw [List.size_toArray]; omega)
    refine ⟨.ref _, _, I5.laid (t' := s4.toks) (o := .tup xs.reverse) (fun b ob q => Heap.get?_push_of_some _ q) (Nat.le_refl _) ?_, rfl, q _ (I5.hok.fresh (Nat.le_refl _))⟩
    exact ⟨by rw [List.length_reverse]; exact hz, its.reverse, r.reverse, IsTup.new _ _⟩
end L2

set_option maxRecDepth 100000
/-! GM: a small language over plain data, and what its programs mean (by what is wanted behind them) -/
namespace GM
open PySem L2

abbrev D := PyData
/-- what a slot holds: a value; an own list; a list that is lent; the script; an error -/
inductive U where
  | v (d : D) | o (xs : List D) | r (xs : List D) | s (ns : List Int) | x (c : Nat) (fs : List (Str × D))
abbrev Env := List (Option U)
inductive BOp where | add | sub | mul | fdiv | mod | pow | shl | shr | band | bor
  deriving DecidableEq
inductive COp where | lt | le | gt | ge | eq | ne | is_ | isnot | in_ | notin
  deriving DecidableEq
/-- built-in functions -/
inductive BI where | len | abs | int1 | tup1 | lst1 | sorted | sum | min1 | max1 | min2 | max2 | isi (ts : List Nat) | gcd | lcm | rngT | rngL | str1 | sset
  deriving DecidableEq
/-- methods that change a list -/
inductive MN where | append | pop | popAt | extend | insert | reverse
  deriving DecidableEq
/-- methods that read -/
inductive MD where | index
  deriving DecidableEq
inductive T where | nm (i : Nat) | tp (ts : List T)
inductive M where
  | var (i : Nat) | con (d : D) | refv (i : Nat)
  | bin (op : BOp) (a b : M) | neg (a : M)
  | cmp (op : COp) (a b : M) | chain (o1 o2 : COp) (a b c : M) | chain3 (o1 o2 o3 : COp) (a b c d : M)
  | and_ (a b : M) | or_ (a b : M) | notv (a : M) | ife (c a b : M)
  | tup (es : List M) | lst (es : List M)
  | idx (a i : M) | slc (a : M) (lo hi : Option M) | rev (a : M)
  | call (f : Nat) (as : List M) | callk (f : Nat) (as ks : List M) (perm : List Nat)
  | bi (b : BI) (as : List M)
  | mth (m : MN) (i : Nat) (as : List M) | mtd (m : MD) (i : Nat) (as : List M)
  | comp (el : M) (t : T) (it : M) (ifs : List M) (own : List Nat)
  | comp2 (el : M) (t : T) (it : M) (ifs : List M) (t2 : T) (it2 : M) (ifs2 : List M) (own : List Nat)
  | att (i k : Nat)
  | jar (i : Nat) (e : M) | slen (i : Nat) | sidx (i : Nat) (e : M)
  | irng (as : List M) | ienum (a : M) | izip (a b : M) | irev (a : M)
/-- what an except suite says: of constants and of the error's fields -/
inductive HX where
  | con (d : D) | att (f : Str) | isx (cs : List Nat) | tup (es : List HX) | and_ (a b : HX) | or_ (a b : HX) | not_ (a : HX)
inductive HS where
  | ret (e : HX) | ite (c : HX) (a b : List HS)
inductive S where
  | asg (t : T) (e : M) | seti (i : Nat) (ix e : M) | augi (i : Nat) (ix : M) (op : BOp) (e : M) | aug (i : Nat) (op : BOp) (e : M) | par (i j : Nat) (a b : M)
  | ite (c : M) (a b : List S) | whl (c : M) (b : List S) | for_ (t : T) (it : M) (b : List S)
  | ret (e : M) | ret0 | exp (e : M) | brk | cnt | pas
  | rse (c : Nat) (ns : List Str) (as : List M) | tri (b : List S) (c : Nat) (slot : Nat) (h : List HS)
  | jdip (i j : Nat)

/-! slots -/
def get : Env → Nat → Option U
  | [], _ => none
  | u :: _, 0 => u
  | _ :: r, n + 1 => get r n
def put : Env → Nat → Option U → Env
  | [], _, _ => []
  | _ :: r, 0, x => x :: r
  | u :: r, n + 1, x => u :: put r n x
def puts (e0 : Env) : List Nat → Env → Env
  | [], e => e
  | i :: is, e => put (puts e0 is e) i (get e0 i)
def wipes : List Nat → Env → Env
  | [], e => e
  | i :: is, e => put (wipes is e) i none
inductive Op where | d (d : D) | var (i : Nat)
def U.fz : U → Option D
  | .v d => some d
  | .o xs => some (.list xs)
  | _ => none
def rdv (env : Env) : Op → Option D
  | .d d => some d
  | .var i => match get env i with
    | some (.v d) => some d
    | some (.o xs) => some (.list xs)
    | some (.r xs) => some (.list xs)
    | _ => none
def rdvs (env : Env) : List Op → Option (List D)
  | [] => some []
  | o :: os => match rdv env o with
    | some d => match rdvs env os with
      | some ds => some (d :: ds)
      | none => none
    | none => none
/-- a slot's value taken out of it: an own list is frozen -/
def escV (env : Env) (i : Nat) : Option (U × Env) := match get env i with
  | some (.v d) => some (.v d, env)
  | some (.o xs) => some (.v (.list xs), put env i (some (.v (.list xs))))
  | _ => none
def retV (env : Env) (i : Nat) : Option (U × Env) := match get env i with
  | some (.v d) => some (.v d, env)
  | some (.o xs) => some (.o xs, put env i none)
  | _ => none
def argU (env : Env) : Op → Option U
  | .d d => some (.v d)
  | .var i => match get env i with
    | some (.o xs) => some (.r xs)
    | some (.r xs) => some (.r xs)
    | some (.s ns) => some (.s ns)
    | _ => none
def argUs (env : Env) : List Op → Option (List U)
  | [] => some []
  | o :: os => match argU env o with
    | some d => match argUs env os with
      | some ds => some (d :: ds)
      | none => none
    | none => none
def cellOf (env : Env) (i : Nat) : Option (List D) := match get env i with
  | some (.o xs) => some xs
  | some (.r xs) => some xs
  | _ => none
def putR0 (env : Env) (i : Nat) : U → Env
  | .r xs => match get env i with
    | some (.o _) => put env i (some (.o xs))
    | some (.r _) => put env i (some (.r xs))
    | _ => env
  | _ => env
/-- .. in one go -/
def updE : Env → Nat → (Option U → Option U) → Env
  | [], _, _ => []
  | u :: r, 0, f => f u :: r
  | u :: r, n + 1, f => u :: updE r n f
def putF (xs : List D) : Option U → Option U
  | some (.o _) => some (.o xs)
  | some (.r _) => some (.r xs)
  | w => w
def putR (env : Env) (i : Nat) : U → Env
  | .r xs => updE env i (putF xs)
  | _ => env
theorem updE_eq (xs : List D) : ∀ (env : Env) (i : Nat), updE env i (putF xs) = match get env i with
    | some (.o _) => put env i (some (.o xs))
    | some (.r _) => put env i (some (.r xs))
    | _ => env
  | [], _ => rfl
  | u :: r, 0 => by
    show putF xs u :: r = _
    cases u with
    | none => rfl
    | some w => cases w <;> rfl
  | u :: r, i + 1 => by
    have ih := updE_eq xs r i
    show u :: updE r i (putF xs) = _
    rw [ih]
    show _ = match get r i with
    | some (.o _) => u :: put r i (some (.o xs))
    | some (.r _) => u :: put r i (some (.r xs))
    | _ => u :: r
    cases get r i with
    | none => rfl
    | some w => cases w <;> rfl
theorem putR_eq (env : Env) (i : Nat) (u : U) : putR env i u = putR0 env i u := by
  cases u <;> first | rfl | exact updE_eq _ _ _
def wb : Env → List Op → List U → Env
  | env, .var i :: os, u :: us => wb (putR env i u) os us
  | env, .d _ :: os, _ :: us => wb env os us
  | env, _, _ => env
def varsOf : List Op → List Nat
  | [] => []
  | .var i :: os => i :: varsOf os
  | .d _ :: os => varsOf os
def nodupB : List Nat → Bool
  | [] => true
  | i :: is => !(is.contains i) && nodupB is
def asgOk (env : Env) (i : Nat) : Prop := match get env i with
  | some (.r _) => False
  | some (.s _) => False
  | some (.x _ _) => False
  | _ => True
def storable : U → Prop
  | .v _ => True
  | .o _ => True
  | _ => False
/-- the slot holds no own thing -/
def plainAt (env : Env) (i : Nat) : Prop := match get env i with
  | none => True
  | some (.v _) => True
  | _ => False
def plainAll (env : Env) : List Nat → Prop
  | [] => True
  | i :: is => plainAt env i ∧ plainAll env is

/-! the points where a run waits for a proof -/
@[irreducible] def optP {α : Type} (o : Option α) (Q : α → Prop) : Prop := ∃ a, o = some a ∧ Q a
@[irreducible] def brP (b : Bool) (P Q : Prop) : Prop := (b = true → P) ∧ (b = false → Q)
@[irreducible] def ckP (c : Prop) (Q : Prop) : Prop := c ∧ Q
@[irreducible] def envP (e : Env) (Q : Env → Prop) : Prop := Q e
theorem envP_of {e e' : Env} {Q : Env → Prop} (h : e = e') (q : Q e') : envP e Q := by unfold envP; rw [h]; exact q
theorem envP_get {e : Env} {Q : Env → Prop} (h : envP e Q) : Q e := by unfold envP at h; exact h
theorem optP_of {α : Type} {o : Option α} {Q : α → Prop} {a : α} (h : o = some a) (q : Q a) : optP o Q := by unfold optP; exact ⟨a, h, q⟩
theorem optP_get {α : Type} {o : Option α} {Q : α → Prop} (h : optP o Q) : ∃ a, o = some a ∧ Q a := by unfold optP at h; exact h
theorem brP_of {b : Bool} {P Q : Prop} (h1 : b = true → P) (h2 : b = false → Q) : brP b P Q := by unfold brP; exact ⟨h1, h2⟩
theorem brP_get {b : Bool} {P Q : Prop} (h : brP b P Q) : (b = true → P) ∧ (b = false → Q) := by unfold brP at h; exact h
theorem brP_t {b : Bool} {P Q : Prop} (e : b = true) (h1 : P) : brP b P Q := brP_of (fun _ => h1) (fun z => by rw [e] at z; cases z)
theorem brP_f {b : Bool} {P Q : Prop} (e : b = false) (h1 : Q) : brP b P Q := brP_of (fun z => by rw [e] at z; cases z) (fun _ => h1)
theorem ckP_of {c Q : Prop} (h : c) (q : Q) : ckP c Q := by unfold ckP; exact ⟨h, q⟩
theorem ckP_get {c Q : Prop} (h : ckP c Q) : c ∧ Q := by unfold ckP at h; exact h

/-! plain operations; what each asks besides the kinds -/
def LIM : Nat := 16777216
def cutL {α : Type} (xs : List α) (lo hi : Option Int) : List α := (xs.drop (HT.sIx xs.length 0 lo)).take (HT.sIx xs.length xs.length hi - HT.sIx xs.length 0 lo)
/-- the item at i, from behind if i is below 0 -/
def atD {α : Type} (xs : List α) : Int → Option α
  | .ofNat n => xs[n]?
  | .negSucc n => if n < xs.length then xs[xs.length - (n + 1)]? else none
def mulC (i j : Int) : Prop := ((-(2 ^ 64) < i ∧ i < 2 ^ 64) ∨ (-(2 ^ 64) < j ∧ j < 2 ^ 64)) ∨ CMulW i j
def divC (j : Int) : Prop := 0 < j ∧ (j < 1073741824 ∨ j.natAbs.log2 < 9000)
def binD : BOp → D → D → Option U
  | .add, .int i, .int j => some (.v (.int (i + j)))
  | .add, .str x, .str y => some (.v (.str (x ++ y)))
  | .add, .tuple xs, .tuple ys => some (.v (.tuple (xs ++ ys)))
  | .add, .list xs, .list ys => some (.o (xs ++ ys))
  | .sub, .int i, .int j => some (.v (.int (i - j)))
  | .mul, .int i, .int j => some (.v (.int (i * j)))
  | .mul, .list xs, .int k => some (.o (List.replicate k.toNat xs).flatten)
  | .mul, .tuple xs, .int k => some (.v (.tuple (List.replicate k.toNat xs).flatten))
  | .fdiv, .int i, .int j => some (.v (.int (i / j)))
  | .mod, .int i, .int j => some (.v (.int (i % j)))
  | .pow, .int i, .int j => some (.v (.int (i ^ j.toNat)))
  | .shl, .int i, .int j => some (.v (.int (i * 2 ^ j.toNat)))
  | .shr, .int i, .int j => some (.v (.int (i / 2 ^ j.toNat)))
  | .band, .int i, .int j => some (.v (.int (Builtin.bitAnd i j)))
  | .bor, .int i, .int j => some (.v (.int (Builtin.bitOr i j)))
  | _, _, _ => none
def powC (i j : Int) : Prop := 0 ≤ j ∧ j ≤ 1000000 ∧ i.natAbs < 2 ^ 64
def binC : BOp → D → D → Prop
  | .add, .str x, .str y => x.length + y.length ≤ LIM
  | .add, .tuple xs, .tuple ys => xs.length + ys.length ≤ LIM
  | .add, .list xs, .list ys => xs.length + ys.length ≤ LIM
  | .mul, .int i, .int j => mulC i j
  | .mul, .list xs, .int k => -(2 ^ 63) ≤ k ∧ k < 2 ^ 63 ∧ xs.length * k.toNat ≤ LIM
  | .mul, .tuple xs, .int k => xs.length ≤ 1000 ∧ k ≤ 1000 ∧ 1 ≤ k
  | .fdiv, .int _, .int j => divC j
  | .mod, .int _, .int j => 0 < j
  | .pow, .int i, .int j => powC i j
  | .shl, .int i, .int j => powC i j
  | .shr, .int _, .int j => 0 ≤ j
  | _, _, _ => True
def negD : D → Option D
  | .int i => some (.int (-i))
  | _ => none
def truD : D → Option Bool
  | .none => some false
  | .bool b => some b
  | .int i => some (i != 0)
  | .str x => some (x.length != 0)
  | .list xs => some (!xs.isEmpty)
  | .tuple xs => some (!xs.isEmpty)
  | _ => none
def truC : D → Prop
  | .str x => x.length ≤ LIM
  | _ => True
def flatD : D → Bool
  | .none => true
  | .bool _ => true
  | .int _ => true
  | .str _ => true
  | _ => false
def ltB (i j : Int) : Bool := decide (i < j)
def leB (i j : Int) : Bool := decide (i ≤ j)
def intsD : List D → Option (List Int)
  | [] => some []
  | .int i :: ds => match intsD ds with
    | some is => some (i :: is)
    | none => none
  | _ :: _ => none
def isN : D → Bool
  | .none => true
  | _ => false
def cmpD : COp → D → D → Option Bool
  | .lt, .int i, .int j => some (ltB i j)
  | .le, .int i, .int j => some (leB i j)
  | .gt, .int i, .int j => some (ltB j i)
  | .ge, .int i, .int j => some (leB j i)
  | .lt, .tuple xs, .tuple ys => match intsD xs, intsD ys with
    | some ns, some ms => some (HT.lexLt ns ms)
    | _, _ => none
  | .eq, x, y => some (x.eqv y)
  | .ne, x, y => some (!x.eqv y)
  | .is_, x, .none => some (isN x)
  | .isnot, x, .none => some (!isN x)
  | .is_, .bool a, .bool b => some (a == b)
  | .isnot, .bool a, .bool b => some (!(a == b))
  | .in_, x, .list ys => some (ys.any fun y => y.eqv x)
  | .in_, x, .tuple ys => some (ys.any fun y => y.eqv x)
  | .notin, x, .list ys => some (!(ys.any fun y => y.eqv x))
  | .notin, x, .tuple ys => some (!(ys.any fun y => y.eqv x))
  | _, _, _ => none
def shapedP (d : D) : Prop := SeqAt.shaped d = true
def cmpC : COp → D → D → Prop
  | .eq, x, y => shapedP x ∧ shapedP y
  | .ne, x, y => shapedP x ∧ shapedP y
  | .in_, x, .list ys => shapedP x ∧ shapedP (.list ys)
  | .in_, x, .tuple ys => shapedP x ∧ shapedP (.tuple ys)
  | .notin, x, .list ys => shapedP x ∧ shapedP (.list ys)
  | .notin, x, .tuple ys => shapedP x ∧ shapedP (.tuple ys)
  | _, _, _ => True
def idxD : D → D → Option D
  | .list xs, .int i => atD xs i
  | .tuple xs, .int i => atD xs i
  | _, _ => none
def slcD : D → Option Int → Option Int → Option U
  | .list xs, lo, hi => some (.o (cutL xs lo hi))
  | .tuple xs, lo, hi => some (.v (.tuple (cutL xs lo hi)))
  | _, _, _ => none
def revD : D → Option U
  | .list xs => some (.o xs.reverse)
  | .tuple xs => some (.v (.tuple xs.reverse))
  | _ => none
def intD : D → Option Int
  | .int i => some i
  | _ => none
/-- the built-in types by number: int, bool, str, tuple, list -/
def tyOf : D → Option Nat
  | .int _ => some 0
  | .bool _ => some 1
  | .str _ => some 2
  | .tuple _ => some 3
  | .list _ => some 4
  | .none => some 5
  | _ => none
def isiB (k : Nat) (t : Nat) : Bool := k == t || (k == 1 && t == 0)
def maxI : List Int → Int
  | [] => 0
  | [x] => x
  | x :: y :: r => max x (maxI (y :: r))
def minI : List Int → Int
  | [] => 0
  | [x] => x
  | x :: y :: r => min x (minI (y :: r))
def seqD : D → Option (List D)
  | .list xs => some xs
  | .tuple xs => some xs
  | _ => none
def D_pair (p : D × Nat) : D := .tuple [.int p.2, p.1]
def isL : D → Bool
  | .list _ => true
  | _ => false
def rngI (lo : Int) (n : Nat) : List D := (List.range n).map fun (k : Nat) => .int (lo + (k : Int))
def sortI (xs : List Int) : List Int := xs.mergeSort (fun a b => decide (a ≤ b))
/-- tuples of whole numbers, sorted as rows -/
def tupsD : List D → Option (List (List Int))
  | [] => some []
  | .tuple x :: xs => match intsD x with
    | some n => match tupsD xs with
      | some ns => some (n :: ns)
      | none => none
    | none => none
  | _ :: _ => none
def tupI (ns : List Int) : D := .tuple (ns.map .int)
def leL : List Int → List Int → Bool
  | [], _ => true
  | _ :: _, [] => false
  | x :: xs, y :: ys => if x = y then leL xs ys else decide (x < y)
def insT (x : List Int) : List (List Int) → List (List Int)
  | [] => [x]
  | y :: ys => if leL x y = true then x :: y :: ys else y :: insT x ys
def sortT : List (List Int) → List (List Int)
  | [] => []
  | x :: xs => insT x (sortT xs)
def biD : BI → List D → Option U
  | .len, [.list xs] => some (.v (.int xs.length))
  | .len, [.tuple xs] => some (.v (.int xs.length))
  | .len, [.str x] => some (.v (.int x.length))
  | .abs, [.int i] => some (.v (.int (if i < 0 then -i else i)))
  | .int1, [.int i] => some (.v (.int i))
  | .int1, [.bool b] => some (.v (.int (if b then 1 else 0)))
  | .tup1, [.list xs] => some (.v (.tuple xs))
  | .tup1, [.tuple xs] => some (.v (.tuple xs))
  | .lst1, [.list xs] => some (.o xs)
  | .lst1, [.tuple xs] => some (.o xs)
  | .sorted, [x] => match seqD x with
    | some xs => match intsD xs with
      | some ns => some (.o ((sortI ns).map .int))
      | none => match tupsD xs with
        | some ts => some (.o ((sortT ts).map tupI))
        | none => none
    | none => none
  | .sum, [x] => match seqD x with
    | some xs => match intsD xs with
      | some ns => some (.v (.int ns.sum))
      | none => none
    | none => none
  | .max1, [x] => match seqD x with
    | some xs => match intsD xs with
      | some ns => some (.v (.int (maxI ns)))
      | none => none
    | none => none
  | .min1, [x] => match seqD x with
    | some xs => match intsD xs with
      | some ns => some (.v (.int (minI ns)))
      | none => none
    | none => none
  | .max2, [.int i, .int j] => some (.v (.int (if j > i then j else i)))
  | .min2, [.int i, .int j] => some (.v (.int (if j < i then j else i)))
  | .isi ts, [x] => match tyOf x with
    | some k => some (.v (.bool (ts.any (isiB k))))
    | none => none
  | .gcd, [.int i, .int j] => some (.v (.int (Nat.gcd i.natAbs j.natAbs)))
  | .lcm, [.int i, .int j] => some (.v (.int (Nat.lcm i.natAbs j.natAbs)))
  | .str1, [.int i] => some (.v (.str (Str.ofString (toString i))))
  | .sset, [x] => match seqD x with
    | some xs => match intsD xs with
      | some ns => some (.o ((ssI ns).map .int))
      | none => none
    | none => none
  | .rngT, [.int n] => some (.v (.tuple (rngI 0 n.toNat)))
  | .rngT, [.int a, .int b] => some (.v (.tuple (rngI a (b - a).toNat)))
  | .rngL, [.int n] => some (.o (rngI 0 n.toNat))
  | .rngL, [.int a, .int b] => some (.o (rngI a (b - a).toNat))
  | _, _ => none
def biC : BI → List D → Prop
  | .max1, [.list xs] => 0 < xs.length
  | .min1, [.list xs] => 0 < xs.length
  | .max1, [.tuple xs] => 0 < xs.length
  | .min1, [.tuple xs] => 0 < xs.length
  | .sset, [.tuple _] => False
  | .sset, [.list xs] => xs.length < 64
  | .str1, [.int i] => i.natAbs.log2 < 1920
  | .rngT, [.int n] => 0 ≤ n ∧ n ≤ LIM
  | .rngL, [.int n] => 0 ≤ n ∧ n ≤ LIM
  | .rngT, [.int a, .int b] => 0 ≤ a ∧ a ≤ LIM ∧ 0 ≤ b ∧ b ≤ LIM
  | .rngL, [.int a, .int b] => 0 ≤ a ∧ a ≤ LIM ∧ 0 ≤ b ∧ b ≤ LIM
  | .lcm, [.int i, .int j] => i.natAbs.log2 < 9000 ∧ j.natAbs.log2 < 9000
  | .len, [.str x] => x.length ≤ LIM
  | _, _ => True
/-- a list's method: the value and the new list -/
def mthD : MN → List D → List D → Option (D × List D)
  | .append, xs, [y] => some (.none, xs ++ [y])
  | .pop, xs, [] => match xs.getLast? with
    | some y => some (y, xs.dropLast)
    | none => none
  | .popAt, xs, [.int i] => match atD xs i with
    | some y => some (y, xs.eraseIdx (if i < 0 then (i + xs.length).toNat else i.toNat))
    | none => none
  | .extend, xs, [.list ys] => some (.none, xs ++ ys)
  | .reverse, xs, [] => some (.none, xs.reverse)
  | _, _, _ => none
def mthC : MN → List D → List D → Prop
  | .append, xs, _ => xs.length < LIM
  | .extend, xs, [.list ys] => xs.length + ys.length ≤ LIM
  | _, _, _ => True
def mdTy : MD → D → Bool
  | .index, .list _ => true
  | _, _ => false
def idxI (k : Int) : List Int → Nat → Option Nat
  | [], _ => none
  | n :: ns, j => if n = k then some j else idxI k ns (j + 1)
def mtdD : MD → D → List D → Option U
  | .index, .list xs, [.int k] => match intsD xs with
    | some ns => match idxI k ns 0 with
      | some j => some (.v (.int j))
      | none => none
    | none => none
  | _, _, _ => none
def setAt (xs : List D) (i : D) (d : D) : Option (List D) := match i with
  | .int i => match ixN xs.length i with
    | some j => some (xs.set j d)
    | none => none
  | _ => none

/-! what a def promises -/
structure EX where
  c : Nat
  fs : List (Str × D)
structure FS where
  α : Type
  args : α → List U
  pre : α → Prop
  post : α → U → List U → Prop
  exc : α → EX → List U → Prop := fun _ _ _ => False
@[irreducible] def callP (o : Option FS) (us : List U) (Qx : EX → List U → Prop) (Q : U → List U → Prop) : Prop :=
  ∃ S, o = some S ∧ ∃ a : S.α, us = S.args a ∧ S.pre a ∧ (∀ r us', S.post a r us' → Q r us') ∧ ∀ x us', S.exc a x us' → Qx x us'
theorem callP_of {o : Option FS} {us : List U} {Qx : EX → List U → Prop} {Q : U → List U → Prop} (S : FS) (h : o = some S) (a : S.α) (e : us = S.args a) (p : S.pre a)
    (q : ∀ r us', S.post a r us' → Q r us') (qx : ∀ x us', S.exc a x us' → Qx x us') : callP o us Qx Q := by unfold callP; exact ⟨S, h, a, e, p, q, qx⟩
theorem callP_get {o : Option FS} {us : List U} {Qx : EX → List U → Prop} {Q : U → List U → Prop} (h : callP o us Qx Q) :
    ∃ S, o = some S ∧ ∃ a : S.α, us = S.args a ∧ S.pre a ∧ (∀ r us', S.post a r us' → Q r us') ∧ ∀ x us', S.exc a x us' → Qx x us' := by unfold callP at h; exact h

def slotsT : Nat → T → List Nat
  | 0, _ => []
  | n + 1, t => match t with
    | .nm i => [i]
    | .tp ts => ts.flatMap (slotsT n)
/-! expressions -/
abbrev QX := EX → Env → Prop
abbrev WE := M → Env → QX → (U → Env → Prop) → Prop
def wpR (rec : WE) (m : M) (env : Env) (Qx : QX) (Q : Op → Env → Prop) : Prop := match m with
  | .var i => optP (get env i) fun _ => Q (.var i) env
  | m => rec m env Qx fun u env' => optP u.fz fun d => Q (.d d) env'
noncomputable def wpOs (rec : WE) (ms : List M) : Env → QX → (List Op → Env → Prop) → Prop :=
  List.rec (motive := fun _ => Env → QX → (List Op → Env → Prop) → Prop) (fun env _ Q => Q [] env) (fun m _ ih env Qx Q => wpR rec m env Qx fun o env1 => ih env1 Qx fun os env2 => Q (o :: os) env2) ms
theorem wpOs_cons {rec : WE} {m : M} {ms : List M} {env : Env} {Qx : QX} {Q : List Op → Env → Prop} : wpOs rec (m :: ms) env Qx Q = wpR rec m env Qx fun o env1 => wpOs rec ms env1 Qx fun os env2 => Q (o :: os) env2 := rfl
/-- values that go into a thing -/
noncomputable def wpVs (rec : WE) (ms : List M) : Env → QX → (List D → Env → Prop) → Prop :=
  List.rec (motive := fun _ => Env → QX → (List D → Env → Prop) → Prop) (fun env _ Q => Q [] env) (fun m _ ih env Qx Q => rec m env Qx fun u env1 => optP u.fz fun d => ih env1 Qx fun ds env2 => Q (d :: ds) env2) ms
def wpA1 (rec : WE) (m : M) (ih : Env → QX → (List Op → Env → Prop) → Prop) (env : Env) (Qx : QX) (Q : List Op → Env → Prop) : Prop := match m with
  | .refv i => optP (get env i) fun _ => ih env Qx fun os env2 => Q (.var i :: os) env2
  | m => rec m env Qx fun u env1 => optP u.fz fun d => ih env1 Qx fun os env2 => Q (.d d :: os) env2
noncomputable def wpAs (rec : WE) (ms : List M) : Env → QX → (List Op → Env → Prop) → Prop :=
  List.rec (motive := fun _ => Env → QX → (List Op → Env → Prop) → Prop) (fun env _ Q => Q [] env) (fun m _ ih env Qx Q => wpA1 rec m ih env Qx Q) ms
def wpT1 (rec : WE) (ih : M → Env → QX → (Bool → Env → Prop) → Prop) (m : M) (env : Env) (Qx : QX) (Q : Bool → Env → Prop) : Prop := match m with
  | .notv a => ih a env Qx fun b env1 => Q (!b) env1
  | .and_ a b => ih a env Qx fun c env1 => brP c (ih b env1 Qx Q) (Q false env1)
  | .or_ a b => ih a env Qx fun c env1 => brP c (Q true env1) (ih b env1 Qx Q)
  | m => wpR rec m env Qx fun o env1 => optP (rdv env1 o) fun d => optP (truD d) fun b => ckP (truC d) (Q b env1)
noncomputable def wpT (rec : WE) (n : Nat) : M → Env → QX → (Bool → Env → Prop) → Prop :=
  Nat.rec (motive := fun _ => M → Env → QX → (Bool → Env → Prop) → Prop) (fun _ _ _ _ => False) (fun _ ih => wpT1 rec ih) n
def wpTs (tst : M → Env → QX → (Bool → Env → Prop) → Prop) : List M → Env → QX → (Bool → Env → Prop) → Prop
  | [], env, _, Q => Q true env
  | c :: _, env, Qx, Q => tst c env Qx Q
noncomputable def bindT.go (rec : T → D → Env → (Env → Prop) → Prop) (ts : List T) : List D → Env → (Env → Prop) → Prop :=
  List.rec (motive := fun _ => List D → Env → (Env → Prop) → Prop) (fun ds env Q => match ds with | [] => Q env | _ :: _ => False)
    (fun t _ ih ds env Q => match ds with | d :: ds => rec t d env fun env1 => ih ds env1 Q | [] => False) ts
noncomputable def bindT1 (ih : T → D → Env → (Env → Prop) → Prop) (t : T) (d : D) (env : Env) (Q : Env → Prop) : Prop := match t with
  | .nm i => ckP (asgOk env i) (Q (put env i (some (.v d))))
  | .tp ts => match d with
    | .tuple ds => bindT.go ih ts ds env Q
    | .list ds => bindT.go ih ts ds env Q
    | _ => False
noncomputable def bindT (n : Nat) : T → D → Env → (Env → Prop) → Prop :=
  Nat.rec (motive := fun _ => T → D → Env → (Env → Prop) → Prop) (fun _ _ _ _ => False) (fun _ ih => bindT1 ih) n
noncomputable def wpI (rec : WE) (m : M) (env : Env) (Qx : QX) (Q : List D → Env → Prop) : Prop := match m with
  | .irng as => wpOs rec as env Qx fun os env1 => optP (rdvs env1 os) fun ds => match ds with
    | [.int n] => ckP (-(2 ^ 62) ≤ n ∧ n < 2 ^ 62) (Q (rngI 0 n.toNat) env1)
    | [.int a, .int b] => ckP (-(2 ^ 62) ≤ a ∧ a < 2 ^ 62 ∧ -(2 ^ 62) ≤ b ∧ b < 2 ^ 62) (Q (rngI a (b - a).toNat) env1)
    | [.int a, .int b, .int (.negSucc 0)] => ckP (-(2 ^ 62) ≤ a ∧ a < 2 ^ 62 ∧ -(2 ^ 62) ≤ b ∧ b < 2 ^ 62) (Q ((List.range (a - b).toNat).map fun (k : Nat) => .int (a - (k : Int))) env1)
    | _ => False
  | .ienum a => rec a env Qx fun u env1 => optP (u.fz.bind seqD) fun ds => Q (ds.zipIdx.map D_pair) env1
  | .izip a b => rec a env Qx fun u env1 => optP u.fz fun d => optP (seqD d) fun ds => rec b env1 Qx fun w env2 => optP w.fz fun e => optP (seqD e) fun es => ckP (isL d = isL e) (Q ((ds.zip es).map fun p => .tuple [p.1, p.2]) env2)
  | .irev a => rec a env Qx fun u env1 => optP (u.fz.bind seqD) fun ds => Q ds.reverse env1
  | m => rec m env Qx fun u env1 => optP (u.fz.bind seqD) fun ds => Q ds env1
/-- a comprehension's items one after another -/
def compL (step : D → Env → (List D → Env → Prop) → Prop) : List D → Env → List D → (List D → Env → Prop) → Prop
  | [], env, acc, Q => Q acc env
  | x :: xs, env, acc, Q => step x env fun ds env1 => compL step xs env1 (acc ++ ds) Q
def forL (step : D → Env → (Env → Prop) → Prop) : List D → Env → (Env → Prop) → Prop
  | [], env, done => done env
  | x :: xs, env, done => step x env fun env1 => forL step xs env1 done
@[irreducible] def compP (step : D → Env → (List D → Env → Prop) → Prop) (xs : List D) (env : Env) (acc : List D) (Q : List D → Env → Prop) : Prop := compL step xs env acc Q
@[irreducible] def forP (step : D → Env → (Env → Prop) → Prop) (xs : List D) (env : Env) (done : Env → Prop) : Prop := forL step xs env done
def whileN (step : Env → (Env → Prop) → Prop) : Nat → Env → Prop
  | 0, _ => False
  | n + 1, env => step env (whileN step n)
@[irreducible] def whileP (step : Env → (Env → Prop) → Prop) (env : Env) : Prop := ∃ n, whileN step n env
theorem compP_nil {step : D → Env → (List D → Env → Prop) → Prop} {env : Env} {acc : List D} {Q : List D → Env → Prop} (h : Q acc env) : compP step [] env acc Q := by unfold compP; exact h
theorem compP_cons {step : D → Env → (List D → Env → Prop) → Prop} {x : D} {xs : List D} {env : Env} {acc : List D} {Q : List D → Env → Prop}
    (h : step x env fun ds env1 => compP step xs env1 (acc ++ ds) Q) : compP step (x :: xs) env acc Q := by unfold compP at h ⊢; exact h
theorem forP_nil {step : D → Env → (Env → Prop) → Prop} {env : Env} {done : Env → Prop} (h : done env) : forP step [] env done := by unfold forP; exact h
theorem forP_cons {step : D → Env → (Env → Prop) → Prop} {x : D} {xs : List D} {env : Env} {done : Env → Prop}
    (h : step x env fun env1 => forP step xs env1 done) : forP step (x :: xs) env done := by unfold forP at h ⊢; exact h
noncomputable def wpE.wpP (rec : WE) (o : Option M) (env : Env) (Qx : QX) (Q : Option Int → Env → Prop) : Prop := match o with
    | none => Q none env
    | some m => wpR rec m env Qx fun ob env1 => optP (rdv env1 ob) fun d => optP (intD d) fun i => Q (some i) env1
noncomputable def wpE.wpSl (rec : WE) (a : M) (lo hi : Option M) (env : Env) (Qx : QX) (Q : U → Env → Prop) : Prop :=
    wpR rec a env Qx fun oa env1 => wpE.wpP rec lo env1 Qx fun l env2 => wpE.wpP rec hi env2 Qx fun h env3 => optP (rdv env3 oa) fun x => optP (slcD x l h) fun r => Q r env3
noncomputable def wpE1 (Γ : Nat → Option FS) (n : Nat) (rec : WE) (m : M) (env : Env) (Qx : QX) (Q : U → Env → Prop) : Prop := match m with
  | .var i => optP (escV env i) fun p => Q p.1 p.2
  | .con d => Q (.v d) env
  | .refv _ => False
  | .bin op a b => wpR rec a env Qx fun oa env1 => wpR rec b env1 Qx fun ob env2 => optP (rdv env2 oa) fun x => optP (rdv env2 ob) fun y => optP (binD op x y) fun r => ckP (binC op x y) (Q r env2)
  | .neg a => wpR rec a env Qx fun oa env1 => optP (rdv env1 oa) fun x => optP (negD x) fun r => Q (.v r) env1
  | .cmp op a b => wpR rec a env Qx fun oa env1 => wpR rec b env1 Qx fun ob env2 => optP (rdv env2 oa) fun x => optP (rdv env2 ob) fun y => optP (cmpD op x y) fun r => ckP (cmpC op x y) (Q (.v (.bool r)) env2)
  | .chain o1 o2 a b c => wpR rec a env Qx fun oa env1 => wpR rec b env1 Qx fun ob env2 => optP (rdv env2 oa) fun x => optP (rdv env2 ob) fun y => optP (cmpD o1 x y) fun r => ckP (cmpC o1 x y)
      (brP r (wpR rec c env2 Qx fun oc env3 => optP (rdv env3 ob) fun y' => optP (rdv env3 oc) fun z => optP (cmpD o2 y' z) fun r2 => ckP (cmpC o2 y' z) (Q (.v (.bool r2)) env3)) (Q (.v (.bool false)) env2))
  | .chain3 o1 o2 o3 a b c d => wpR rec a env Qx fun oa env1 => wpR rec b env1 Qx fun ob env2 => optP (rdv env2 oa) fun x => optP (rdv env2 ob) fun y => optP (cmpD o1 x y) fun r => ckP (cmpC o1 x y)
      (brP r (wpR rec c env2 Qx fun oc env3 => optP (rdv env3 ob) fun y' => optP (rdv env3 oc) fun z => optP (cmpD o2 y' z) fun r2 => ckP (cmpC o2 y' z)
        (brP r2 (wpR rec d env3 Qx fun od env4 => optP (rdv env4 oc) fun z' => optP (rdv env4 od) fun t => optP (cmpD o3 z' t) fun r3 => ckP (cmpC o3 z' t) (Q (.v (.bool r3)) env4)) (Q (.v (.bool false)) env3))) (Q (.v (.bool false)) env2))
  | .and_ a b => rec a env Qx fun u env1 => optP u.fz fun d => optP (truD d) fun t => ckP (truC d) (brP t (rec b env1 Qx Q) (Q (.v d) env1))
  | .or_ a b => rec a env Qx fun u env1 => optP u.fz fun d => optP (truD d) fun t => ckP (truC d) (brP t (Q (.v d) env1) (rec b env1 Qx Q))
  | .notv a => wpR rec a env Qx fun oa env1 => optP (rdv env1 oa) fun d => optP (truD d) fun t => ckP (truC d) (Q (.v (.bool (!t))) env1)
  | .ife c a b => wpT rec n c env Qx fun t env1 => brP t (rec a env1 Qx Q) (rec b env1 Qx Q)
  | .tup es => wpVs rec es env Qx fun ds env1 => Q (.v (.tuple ds)) env1
  | .lst es => wpVs rec es env Qx fun ds env1 => Q (.o ds) env1
  | .idx a i => wpR rec a env Qx fun oa env1 => wpR rec i env1 Qx fun oi env2 => optP (rdv env2 oa) fun x => optP (rdv env2 oi) fun y => optP (idxD x y) fun r => Q (.v r) env2
  | .slc a lo hi => match a with
    | .var i => match get env i with
      | some (.s ns) => match lo, hi with
        | none, some (.con (.int k)) => Q (.o (cutL (ns.map .int) none (some k))) env
        | _, _ => False
      | _ => wpE.wpSl rec a lo hi env Qx Q
    | a => wpE.wpSl rec a lo hi env Qx Q
  | .rev a => wpR rec a env Qx fun oa env1 => optP (rdv env1 oa) fun x => optP (revD x) fun r => Q r env1
  | .call f as => wpAs rec as env Qx fun os env1 => optP (argUs env1 os) fun us => ckP (nodupB (varsOf os) = true) (callP (Γ f) us (fun x us' => Qx x (wb env1 os us')) fun r us' => envP (wb env1 os us') (Q r))
  | .callk f as ks perm => wpAs rec as env Qx fun os env1 => wpAs rec ks env1 Qx fun os2 env2 => optP (perm.mapM fun k => (os ++ os2)[k]?) fun os3 => optP (argUs env2 os3) fun us =>
      ckP (nodupB (varsOf os3) = true) (callP (Γ f) us (fun x us' => Qx x (wb env2 os3 us')) fun r us' => envP (wb env2 os3 us') (Q r))
  | .bi b as => wpOs rec as env Qx fun os env1 => optP (rdvs env1 os) fun ds => optP (biD b ds) fun r => ckP (biC b ds) (Q r env1)
  | .mth mn i as => optP (cellOf env i) fun _ => wpVs rec as env Qx fun ds env1 => optP (cellOf env1 i) fun xs => optP (mthD mn xs ds) fun p => ckP (mthC mn xs ds) (Q (.v p.1) (putR env1 i (.r p.2)))
  | .mtd md i as => optP (rdv env (.var i)) fun x0 => ckP (mdTy md x0 = true) (wpVs rec as env Qx fun ds env1 => optP (rdv env1 (.var i)) fun x => optP (mtdD md x ds) fun r => Q r env1)
  | .comp el t it ifs own => wpI rec it env Qx fun ds env1 => ckP (plainAll env1 own ∧ ds.length ≤ LIM) (compP
      (fun x e nx => bindT n t x e fun e1 => wpTs (wpT rec n) ifs e1 (fun _ _ => False) fun b e2 => brP b (rec el e2 (fun _ _ => False) fun u e3 => optP u.fz fun d => nx [d] (wipes own e3)) (nx [] (wipes own e2)))
      ds (wipes own env1) [] fun acc e => Q (.o acc) (puts env1 own e))
  | .comp2 el t it ifs t2 it2 ifs2 own => wpI rec it env Qx fun ds env1 => ckP (plainAll env1 own ∧ ds.length ≤ 4096) (compP
      (fun x e nx => bindT n t x e fun e1 => wpTs (wpT rec n) ifs e1 (fun _ _ => False) fun b e2 => brP b (wpI rec it2 e2 (fun _ _ => False) fun ds2 e3 => ckP (ds2.length ≤ 4096) (compP
        (fun y e' nx' => bindT n t2 y e' fun e4 => wpTs (wpT rec n) ifs2 e4 (fun _ _ => False) fun b2 e5 => brP b2 (rec el e5 (fun _ _ => False) fun u e6 => optP u.fz fun d => nx' [d] (wipes (slotsT n t2) e6)) (nx' [] (wipes (slotsT n t2) e5)))
        ds2 (wipes (slotsT n t2) e3) [] fun acc2 e7 => nx acc2 (wipes own e7))) (nx [] (wipes own e2)))
      ds (wipes own env1) [] fun acc e => Q (.o acc) (puts env1 own e))
  | .att i k => match get env i with
    | _ => False
  | .jar i e => optP (cellOf env i) fun xs => optP (intsD xs) fun _ => rec e env (fun _ _ => False) fun u env1 => optP u.fz fun d => optP (intD d) fun n => Q (.o [.dict [], .int n]) env1
  | .slen i => match get env i with
    | some (.s ns) => Q (.v (.int ns.length)) env
    | _ => False
  | .sidx i e => match get env i with
    | some (.s ns) => wpR rec e env Qx fun oi env1 => optP (rdv env1 oi) fun y => optP (intD y) fun j => optP (ns[j.toNat]?) fun x => ckP (0 ≤ j) (Q (.v (.int x)) env1)
    | _ => False
  | .irng _ => False
  | .ienum _ => False
  | .izip _ _ => False
  | .irev _ => False
noncomputable def wpE (Γ : Nat → Option FS) (n : Nat) : WE :=
  Nat.rec (motive := fun _ => WE) (fun _ _ _ _ => False) (fun n ih => wpE1 Γ n ih) n
theorem wpE_succ {Γ : Nat → Option FS} {n : Nat} : wpE Γ (n + 1) = wpE1 Γ n (wpE Γ n) := rfl

/-! statements -/
structure K where
  nx : Env → Prop
  rt : U → Env → Prop
  bk : Env → Prop
  ct : Env → Prop
  ex : QX
noncomputable def wpSs (rec : S → Env → K → Prop) (ss : List S) : Env → K → Prop :=
  List.rec (motive := fun _ => Env → K → Prop) (fun env k => k.nx env) (fun s _ ih env k => rec s env { k with nx := fun env1 => ih env1 k }) ss
/-- the errors by number: 0 is the base of all others -/
def subX (c d : Nat) : Bool := c == d || d == 0
mutual
def hE : HX → EX → Option D
  | .con d, _ => some d
  | .att f, x => x.fs.lookup f
  | .isx cs, x => some (.bool (cs.any fun d => subX x.c d))
  | .tup es, x => match hEs es x with
    | some ds => some (.tuple ds)
    | none => none
  | .and_ a b, x => match hE a x with
    | some (.bool true) => hE b x
    | some (.bool false) => some (.bool false)
    | _ => none
  | .or_ a b, x => match hE a x with
    | some (.bool true) => some (.bool true)
    | some (.bool false) => hE b x
    | _ => none
  | .not_ a, x => match hE a x with
    | some (.bool t) => some (.bool (!t))
    | _ => none
def hEs : List HX → EX → Option (List D)
  | [], _ => some []
  | e :: es, x => match hE e x with
    | some d => match hEs es x with
      | some ds => some (d :: ds)
      | none => none
    | none => none
end
mutual
def hRun1 : HS → EX → Option (Option D)
  | .ret e, x => match hE e x with
    | some d => some (some d)
    | none => none
  | .ite c a b, x => match hE c x with
    | some (.bool true) => hRun a x
    | some (.bool false) => hRun b x
    | _ => none
def hRun : List HS → EX → Option (Option D)
  | [], _ => some none
  | s :: ss, x => match hRun1 s x with
    | some none => hRun ss x
    | r => r
end
/-- a list whose first item is a list of whole numbers of which no more is told -/
def isJar : U → Bool
  | .r (.dict [] :: _) => true
  | .o (.dict [] :: _) => true
  | _ => false
def putO (env : Env) (o : Option Nat) (u : Option U) : Env := match o with
  | none => env
  | some i => put env i u
noncomputable def wpS1 (Γ : Nat → Option FS) (n : Nat) (rec : S → Env → K → Prop) (s : S) (env : Env) (k : K) : Prop := match s with
  | .asg t e => match t with
    | .nm i => wpE Γ n e env k.ex fun u env1 => ckP (asgOk env1 i ∧ storable u) (envP (put env1 i (some u)) k.nx)
    | t => wpE Γ n e env k.ex fun u env1 => optP u.fz fun d => bindT n t d env1 k.nx
  | .seti i ix e => wpE Γ n e env k.ex fun u env1 => optP u.fz fun d => optP (get env1 i) fun _ => wpR (wpE Γ n) ix env1 k.ex fun oi env2 => optP (rdv env2 oi) fun y => optP (cellOf env2 i) fun xs => optP (setAt xs y d) fun ys => k.nx (putR env2 i (.r ys))
  | .augi i ix op e => optP (get env i) fun _ => wpR (wpE Γ n) ix env k.ex fun oi env1 => optP (rdv env1 oi) fun y => optP (cellOf env1 i) fun xs => optP (idxD (.list xs) y) fun x =>
      wpR (wpE Γ n) e env1 k.ex fun oe env2 => optP (rdv env2 oe) fun z => optP (rdv env2 oi) fun y2 => optP (intD x) fun a => optP (intD z) fun b => optP (binD op (.int a) (.int b)) fun r => optP r.fz fun d => optP (cellOf env2 i) fun xs2 => optP (setAt xs2 y2 d) fun ys => k.nx (putR env2 i (.r ys))
  | .aug i op e => optP (get env i) fun _ => wpR (wpE Γ n) e env k.ex fun oe env1 => optP (rdv env1 (.var i)) fun x => optP (rdv env1 oe) fun z => optP (intD x) fun a => optP (intD z) fun b => optP (binD op (.int a) (.int b)) fun r => ckP (asgOk env1 i) (k.nx (put env1 i (some r)))
  | .par i j a b => wpVs (wpE Γ n) [a, b] env k.ex fun ds env1 => match ds with
    | [x, y] => ckP (asgOk env1 i ∧ asgOk env1 j) (k.nx (put (put env1 i (some (.v x))) j (some (.v y))))
    | _ => False
  | .ite c a b => wpT (wpE Γ n) n c env k.ex fun t env1 => brP t (wpSs rec a env1 k) (wpSs rec b env1 k)
  | .whl c b => whileP (fun e nx => wpT (wpE Γ n) n c e k.ex fun t e1 => brP t (wpSs rec b e1 { k with nx := nx, ct := nx, bk := k.nx }) (k.nx e1)) env
  | .for_ t it b => wpI (wpE Γ n) it env k.ex fun ds env1 => forP (fun x e nx => bindT n t x e fun e1 => wpSs rec b e1 { k with nx := nx, ct := nx, bk := k.nx }) ds env1 k.nx
  | .ret e => match e with
    | .var i => optP (retV env i) fun p => k.rt p.1 p.2
    | e => wpE Γ n e env k.ex fun u env1 => ckP (storable u) (k.rt u env1)
  | .ret0 => k.rt (.v .none) env
  | .exp e => wpE Γ n e env k.ex fun _ env1 => k.nx env1
  | .brk => k.bk env
  | .cnt => k.ct env
  | .pas => k.nx env
  | .rse c ns as => wpVs (wpE Γ n) as env k.ex fun ds env1 => k.ex ⟨c, ns.zip ds⟩ env1
  | .tri b c slot h => wpSs rec b env { k with ex := fun x env1 => brP (subX x.c c) (optP (hRun h x) fun r => ckP (plainAt env1 slot) (match r with | some d => k.rt (.v d) (put env1 slot none) | none => k.nx (put env1 slot none))) (k.ex x env1) }
  | .jdip i j => optP (get env i) fun u => ckP (isJar u = true) (optP (rdv env (.var j)) fun d => optP (intD d) fun m => ckP (0 < m) ((∀ r : Int, 0 ≤ r → r < m → k.rt (.v (.int r)) env) ∧ k.nx env))
noncomputable def wpS (Γ : Nat → Option FS) (n : Nat) : S → Env → K → Prop :=
  Nat.rec (motive := fun _ => S → Env → K → Prop) (fun _ _ _ => False) (fun n ih => wpS1 Γ n ih) n
theorem wpS_succ {Γ : Nat → Option FS} {n : Nat} : wpS Γ (n + 1) = wpS1 Γ n (wpS Γ n) := rfl
/-- what the lent things hold at the end -/
def fin : List U → Env → List U
  | [], _ => []
  | .r xs :: us, some (.r ys) :: env => .r ys :: fin us env
  | u :: us, _ :: env => u :: fin us env
  | u :: us, [] => u :: fin us []
def start (n : Nat) (us : List U) : Env := us.map some ++ List.replicate (n - us.length) none
noncomputable def wpF (Γ : Nat → Option FS) (n : Nat) (body : List S) (nloc : Nat) (us : List U) (post : U → List U → Prop) (exc : EX → List U → Prop) : Prop :=
  wpSs (wpS Γ n) body (start nloc us) { nx := fun env => post (.v .none) (fin us env), rt := fun u env => post u (fin us env), bk := fun _ => False, ct := fun _ => False, ex := fun x env => exc x (fin us env) }
end GM

set_option maxRecDepth 100000
/-! GM: how plain data lie in the heap -/
namespace GM
open PySem PySem.Spec PyProof.Rows L2

mutual
/-- the value v stands for d; all its parts are frozen in F -/
inductive Rep (F : Hp) : V → D → Prop
  | non : Rep F .non .none
  | bl (b : Bool) : Rep F (.bl b) (.bool b)
  | int (i : Int) : Rep F (.int i) (.int i)
  | str (x : Str) : Rep F (.str x) (.str x)
  | tup {a : Addr} {xs : List V} {ds : List D} (h : F a = some (.tup xs)) (r : Reps F xs ds) : Rep F (.ref a) (.tuple ds)
  | lst {a : Addr} {xs : List V} {ds : List D} (h : F a = some (.lst xs)) (r : Reps F xs ds) : Rep F (.ref a) (.list ds)
  | opq {b : Addr} (h : F b = some (JL b)) : Rep F (.ref b) (.dict [])
inductive Reps (F : Hp) : List V → List D → Prop
  | nil : Reps F [] []
  | cons {v : V} {vs : List V} {d : D} {ds : List D} (h : Rep F v d) (t : Reps F vs ds) : Reps F (v :: vs) (d :: ds)
end
theorem same_refl {H : Hp} : Same H H := fun _ _ h => h
theorem same_upd {H : Hp} {p : Addr} {o : HO} (h : H p = none) : Same H (upd H p o) := fun b x e => by
  rw [upd_ne (ne_of_none e h)]; exact e
mutual
theorem Rep.mono {F F' : Hp} (s : Same F F') : ∀ {v : V} {d : D}, Rep F v d → Rep F' v d
  | _, _, .non => .non
  | _, _, .bl b => .bl b
  | _, _, .int i => .int i
  | _, _, .str x => .str x
  | _, _, .tup h r => .tup (s _ _ h) (Reps.mono s r)
  | _, _, .lst h r => .lst (s _ _ h) (Reps.mono s r)
  | _, _, .opq h => .opq (s _ _ h)
theorem Reps.mono {F F' : Hp} (s : Same F F') : ∀ {vs : List V} {ds : List D}, Reps F vs ds → Reps F' vs ds
  | _, _, .nil => .nil
  | _, _, .cons h t => .cons (Rep.mono s h) (Reps.mono s t)
end
theorem Reps.length {F : Hp} : ∀ {vs : List V} {ds : List D}, Reps F vs ds → vs.length = ds.length
  | _, _, .nil => rfl
  | _, _, .cons _ t => by rw [List.length_cons, List.length_cons, Reps.length t]
theorem Reps.get {F : Hp} : ∀ {vs : List V} {ds : List D} {i : Nat} {d : D}, Reps F vs ds → ds[i]? = some d → ∃ v, vs[i]? = some v ∧ Rep F v d
  | _, _, _, _, .nil, e => by simp at e
  | _, _, 0, _, .cons h _, e => by simp at e; subst e; exact ⟨_, rfl, h⟩
  | _, _, i + 1, d, .cons _ t, e => by
    obtain ⟨v, h1, h2⟩ := Reps.get (i := i) (d := d) t (by simpa using e)
    exact ⟨v, by simpa using h1, h2⟩
theorem Reps.getV {F : Hp} : ∀ {vs : List V} {ds : List D} {i : Nat} {v : V}, Reps F vs ds → vs[i]? = some v → ∃ d, ds[i]? = some d ∧ Rep F v d
  | _, _, _, _, .nil, e => by simp at e
  | _, _, 0, _, .cons h _, e => by simp at e; subst e; exact ⟨_, rfl, h⟩
  | _, _, i + 1, v, .cons _ t, e => by
    obtain ⟨d, h1, h2⟩ := Reps.getV (i := i) (v := v) t (by simpa using e)
    exact ⟨d, by simpa using h1, h2⟩
theorem Reps.append {F : Hp} : ∀ {vs ws : List V} {ds es : List D}, Reps F vs ds → Reps F ws es → Reps F (vs ++ ws) (ds ++ es)
  | _, _, _, _, .nil, s => s
  | _, _, _, _, .cons h t, s => .cons h (Reps.append t s)
theorem Reps.one {F : Hp} {v : V} {d : D} (h : Rep F v d) : Reps F [v] [d] := .cons h .nil
theorem Reps.take {F : Hp} : ∀ {vs : List V} {ds : List D} (n : Nat), Reps F vs ds → Reps F (vs.take n) (ds.take n)
  | _, _, 0, _ => .nil
  | _, _, _ + 1, .nil => .nil
  | _, _, n + 1, .cons h t => .cons h (Reps.take n t)
theorem Reps.drop {F : Hp} : ∀ {vs : List V} {ds : List D} (n : Nat), Reps F vs ds → Reps F (vs.drop n) (ds.drop n)
  | _, _, 0, r => r
  | _, _, _ + 1, .nil => .nil
  | _, _, n + 1, .cons _ t => Reps.drop n t
theorem Reps.set {F : Hp} {v : V} {d : D} (h : Rep F v d) : ∀ {vs : List V} {ds : List D} (i : Nat), Reps F vs ds → Reps F (vs.set i v) (ds.set i d)
  | _, _, _, .nil => .nil
  | _, _, 0, .cons _ t => .cons h t
  | _, _, i + 1, .cons q t => .cons q (Reps.set h i t)
theorem Reps.erase {F : Hp} : ∀ {vs : List V} {ds : List D} (i : Nat), Reps F vs ds → Reps F (vs.eraseIdx i) (ds.eraseIdx i)
  | _, _, _, .nil => .nil
  | _, _, 0, .cons _ t => t
  | _, _, i + 1, .cons q t => .cons q (Reps.erase i t)
theorem Reps.reverse {F : Hp} : ∀ {vs : List V} {ds : List D}, Reps F vs ds → Reps F vs.reverse ds.reverse
  | _, _, .nil => .nil
  | _, _, .cons h t => by rw [List.reverse_cons, List.reverse_cons]; exact (Reps.reverse t).append (.one h)
theorem Reps.dropLast {F : Hp} {vs : List V} {ds : List D} (r : Reps F vs ds) : Reps F vs.dropLast ds.dropLast := by
  rw [List.dropLast_eq_take, List.dropLast_eq_take, r.length]; exact r.take _
theorem Reps.rep {F : Hp} {vs : List V} {ds : List D} (r : Reps F vs ds) : ∀ k : Nat, Reps F (List.replicate k vs).flatten (List.replicate k ds).flatten
  | 0 => .nil
  | k + 1 => by rw [List.replicate_succ, List.replicate_succ, List.flatten_cons, List.flatten_cons]; exact r.append (Reps.rep r k)
theorem Reps.nil_iff {F : Hp} {vs : List V} {ds : List D} (r : Reps F vs ds) : vs = [] ↔ ds = [] := by
  cases r <;> simp
theorem Reps.isEmpty {F : Hp} {vs : List V} {ds : List D} (r : Reps F vs ds) : vs.isEmpty = ds.isEmpty := by cases r <;> rfl
theorem Reps.cut {F : Hp} {vs : List V} {ds : List D} (r : Reps F vs ds) (lo hi : Option Int) : Reps F (cutV vs lo hi) (cutL ds lo hi) := by
  unfold cutV cutL; rw [r.length]; exact (r.drop _).take _
theorem cutV_eq (vs : List V) (lo hi : Option Int) : cutV vs lo hi = cutL vs lo hi := rfl
theorem Reps.ints {F : Hp} : ∀ {vs : List V} {ds : List D} {ns : List Int}, Reps F vs ds → intsD ds = some ns → vs = ns.map V.int
  | _, _, _, .nil, e => by simp [intsD] at e; subst e; rfl
  | _, _, ns, .cons (d := d) (ds := ds) h t, e => by
    cases d with
    | int i =>
      cases h
      simp only [intsD] at e
      cases q : intsD ds with
      | none => rw [q] at e; cases e
      | some is => rw [q] at e; cases e; rw [Reps.ints t q]; rfl
    | _ => simp [intsD] at e
theorem Reps.of_ints {F : Hp} : ∀ ns : List Int, Reps F (ns.map V.int) (ns.map PyData.int)
  | [] => .nil
  | n :: ns => .cons (.int n) (Reps.of_ints ns)
/-- what may be read as d: it is d, or an own list of these items -/
inductive Rd (F H : Hp) : V → D → Prop
  | v {v : V} {d : D} (h : Rep F v d) : Rd F H v d
  | l {a : Addr} {vs : List V} {xs : List D} (h : H a = some (.lst vs)) (r : Reps F vs xs) : Rd F H (.ref a) (.list xs)
section
variable {F H : Hp} {v : V}
theorem Rd.int {i : Int} (h : Rd F H v (.int i)) : v = .int i := by cases h with | v h => cases h; rfl
theorem Rd.bl {b : Bool} (h : Rd F H v (.bool b)) : v = .bl b := by cases h with | v h => cases h; rfl
theorem Rd.str {x : Str} (h : Rd F H v (.str x)) : v = .str x := by cases h with | v h => cases h; rfl
theorem Rd.non (h : Rd F H v .none) : v = .non := by cases h with | v h => cases h; rfl
theorem Rd.lst {xs : List D} (h : Rd F H v (.list xs)) (s : Same F H) : ∃ a vs, v = .ref a ∧ H a = some (.lst vs) ∧ Reps F vs xs := by
  cases h with
  | v h => cases h with | lst e r => exact ⟨_, _, rfl, s _ _ e, r⟩
  | l e r => exact ⟨_, _, rfl, e, r⟩
theorem Rd.tup {xs : List D} (h : Rd F H v (.tuple xs)) (s : Same F H) : ∃ a vs, v = .ref a ∧ H a = some (.tup vs) ∧ F a = some (.tup vs) ∧ Reps F vs xs := by
  cases h with
  | v h => cases h with | tup e r => exact ⟨_, _, rfl, s _ _ e, e, r⟩
end
mutual
theorem Rep.dp {K : PySem.W.Frag} {F H : Hp} (s : Same F H) : ∀ {v : V} {d : D}, Rep F v d → PyData.canLay0 d = true → Dp K H v d
  | _, _, .non, _ => .non
  | _, _, .bl b, _ => .bl b
  | _, _, .int i, _ => .int i
  | _, _, .str x, _ => .str x
  | _, _, .tup h r, c => .tup (SqT.of (s _ _ h)) (Reps.dp s r (by simpa [PyData.canLay0] using c))
  | _, _, .lst h r, c => .lst (SqL.of (s _ _ h)) (Reps.dp s r (by simpa [PyData.canLay0] using c))
  | _, _, .opq _, c => by simp [PyData.canLay0] at c
theorem Reps.dp {K : PySem.W.Frag} {F H : Hp} (s : Same F H) : ∀ {vs : List V} {ds : List D}, Reps F vs ds → PyData.canLayAll0 ds = true → DpAll K H vs ds
  | _, _, .nil, _ => .nil
  | _, _, .cons h t, c => .cons (Rep.dp s h (by simp [PyData.canLayAll0] at c; exact c.1)) (Reps.dp s t (by simp [PyData.canLayAll0] at c; exact c.2))
end
theorem Rd.dp {K : PySem.W.Frag} {F H : Hp} {v : V} {d : D} (h : Rd F H v d) (s : Same F H) (c : SeqAt.shaped d = true) : Dp K H v d := by
  have c := SeqAt.canLay_of_shaped c
  cases h with
  | v h => exact h.dp s c
  | l e r => exact .lst (SqL.of e) (r.dp s (by simpa [PyData.canLay0] using c))

/-! ### what grows -/
structure Grow (F H F' H' : Hp) : Prop where
  f : Same F F'
  le : Same F' H'
  h : Same H H'
  new : ∀ b, F' b ≠ none → F b ≠ none ∨ H b = none
theorem Grow.refl {F H : Hp} (s : Same F H) : Grow F H F H := ⟨fun _ _ h => h, s, fun _ _ h => h, fun _ h => .inl h⟩
/-- a new result -/
def RN (H F' H' : Hp) (v : V) : U → Prop
  | .v d => Rep F' v d
  | .o xs => ∃ p vs, v = .ref p ∧ H p = none ∧ H' p = some (.lst vs) ∧ F' p = none ∧ Reps F' vs xs
  | _ => False
theorem Grow.froz {F H : Hp} {p : Addr} {o : HO} (s : Same F H) (hp : H p = none) : Grow F H (upd F p o) (upd H p o) := by
  have fp : F p = none := by
    cases e : F p with
    | none => rfl
    | some x => have := s _ _ e; rw [hp] at this; cases this
  refine ⟨same_upd fp, fun b x e => ?_, same_upd hp, fun b e => ?_⟩
  · by_cases hb : b = p
    · subst hb; rw [upd_same] at e ⊢; exact e
    · rw [upd_ne hb] at e ⊢; exact s _ _ e
  · by_cases hb : b = p
    · subst hb; exact .inr hp
    · rw [upd_ne hb] at e; exact .inl e
theorem Grow.own {F H : Hp} {p : Addr} {o : HO} (s : Same F H) (hp : H p = none) : Grow F H F (upd H p o) :=
  ⟨fun _ _ h => h, fun b x e => by rw [upd_ne (ne_of_none (s _ _ e) hp)]; exact s _ _ e, same_upd hp, fun _ h => .inl h⟩
theorem noneF {F H : Hp} {p : Addr} (s : Same F H) (hp : H p = none) : F p = none := by
  cases e : F p with
  | none => rfl
  | some x => have := s _ _ e; rw [hp] at this; cases this
theorem same_updF {F H : Hp} {p : Addr} {o : HO} (s : Same F H) (hf : F p = none) : Same F (upd H p o) := fun b x e => by
  rw [upd_ne (ne_of_none e hf)]; exact s _ _ e

/-! ### the state -/
structure Zt where
  F : Hp
  P : Hp
  N : Addr → Prop
  R : Addr → Prop
  X : Nat → Option Addr
/-- an error's own dict; CT: the classes by number, their fields -/
abbrev CTab := Nat → Option (Addr × List Str)
def XR (CT : CTab) (F : Hp) (x : EX) (cls : Value) (d : Option Addr) : Prop :=
  ∃ C ns dx vs ds, CT x.c = some (C, ns) ∧ cls = .ref C ∧ d = some dx ∧ F dx = some (.xd (ns.zip vs)) ∧ Reps F vs ds ∧ ns.length = vs.length ∧ x.fs = ns.zip ds
def RS (K : PySem.W.Frag) (Z : Zt) (F H : Hp) (v : V) : U → Prop
  | .v d => Rep F v d
  | .o xs => ∃ a vs, v = .ref a ∧ H a = some (.lst vs) ∧ F a = none ∧ Reps F vs xs ∧ Z.N a ∧ Z.P a = none
  | .r xs => ∃ a vs, v = .ref a ∧ H a = some (.lst vs) ∧ F a = none ∧ Reps F vs xs ∧ Z.R a ∧ Z.P a = none
  | .s ns => ∃ a, v = .ref a ∧ SqL K Z.P a (ns.map V.int) ∧ ns.length ≤ LIM ∧ (Z.N a → SqL K (fun _ => none) a (ns.map V.int))
  | .x _ _ => True
def Own (env : Env) (i : Nat) : Prop := (∃ xs, get env i = some (.o xs)) ∨ ∃ xs, get env i = some (.r xs)
structure SR (K : PySem.W.Frag) (Z : Zt) (F H : Hp) (σ : L2.St) (env : Env) : Prop where
  len : env.length = σ.length
  le : Same F H
  keep : Same Z.P H
  base : Same Z.F F
  new : ∀ b, F b ≠ none → Z.F b ≠ none ∨ (Z.N b ∧ Z.P b = none)
  dom : ∀ b, H b = none → Z.N b
  slot : ∀ i u, get env i = some u → ∃ v, σ[i]? = some (some v) ∧ RS K Z F H v u
  dis : ∀ i j a, i ≠ j → Own env i → Own env j → σ[i]? = some (some (.ref a)) → σ[j]? = some (some (.ref a)) → False
  ref : ∀ i a, Z.X i = some a → (∃ xs, get env i = some (.r xs)) ∧ σ[i]? = some (some (.ref a))
def RU (Z : Zt) (F H : Hp) (σ : L2.St) (env : Env) (v : V) : U → Prop
  | .v d => Rep F v d
  | .o xs => ∃ a vs, v = .ref a ∧ H a = some (.lst vs) ∧ F a = none ∧ Reps F vs xs ∧ Z.N a ∧ Z.P a = none ∧ ∀ i, Own env i → σ[i]? ≠ some (some (.ref a))
  | _ => False

/-! slots -/
theorem get_put_same : ∀ {env : Env} {i : Nat} {u : Option U}, i < env.length → get (put env i u) i = u
  | _ :: _, 0, _, _ => rfl
  | _ :: r, i + 1, u, h => get_put_same (env := r) (i := i) (by simpa using h)
  | [], _, _, h => by simp at h
theorem get_put_ne : ∀ {env : Env} {i j : Nat} {u : Option U}, i ≠ j → get (put env i u) j = get env j
  | [], _, _, _, _ => rfl
  | _ :: _, 0, 0, _, h => absurd rfl h
  | _ :: _, 0, _ + 1, _, _ => rfl
  | _ :: _, _ + 1, 0, _, _ => rfl
  | _ :: r, i + 1, j + 1, u, h => get_put_ne (env := r) (by omega)
theorem put_length : ∀ (env : Env) (i : Nat) (u : Option U), (put env i u).length = env.length
  | [], _, _ => rfl
  | _ :: _, 0, _ => rfl
  | _ :: r, i + 1, u => by simp [put, put_length r i u]
theorem get_some_lt : ∀ {env : Env} {i : Nat} {u : U}, get env i = some u → i < env.length
  | [], _, _, h => by simp [get] at h
  | _ :: _, 0, _, _ => by simp
  | _ :: r, i + 1, u, h => by have := get_some_lt (env := r) (i := i) h; simp; omega
theorem get_put_some {env : Env} {i j : Nat} {w : Option U} {u : U} (h : get (put env i w) j = some u) : (i = j ∧ w = some u) ∨ (i ≠ j ∧ get env j = some u) := by
  by_cases e : i = j
  · subst e
    refine .inl ⟨rfl, ?_⟩
    have hl : i < env.length := by have := get_some_lt h; rwa [put_length] at this
    rw [get_put_same hl] at h; exact h
  · exact .inr ⟨e, by rwa [get_put_ne e] at h⟩
theorem Own.put {env : Env} {i j : Nat} {w : Option U} (h : Own (put env i w) j) : (i = j ∧ ((∃ xs, w = some (.o xs)) ∨ ∃ xs, w = some (.r xs))) ∨ (i ≠ j ∧ Own env j) := by
  rcases h with ⟨xs, h⟩ | ⟨xs, h⟩
  · rcases get_put_some h with ⟨e, q⟩ | ⟨e, q⟩
    · exact .inl ⟨e, .inl ⟨xs, q⟩⟩
    · exact .inr ⟨e, .inl ⟨xs, q⟩⟩
  · rcases get_put_some h with ⟨e, q⟩ | ⟨e, q⟩
    · exact .inl ⟨e, .inr ⟨xs, q⟩⟩
    · exact .inr ⟨e, .inr ⟨xs, q⟩⟩

section
variable {K : PySem.W.Frag} {Z : Zt} {F H F' H' : Hp} {σ : L2.St} {env : Env}
theorem SR.noneF (S : SR K Z F H σ env) {p : Addr} (h : H p = none) : F p = none := GM.noneF S.le h
theorem SR.noneP (S : SR K Z F H σ env) {p : Addr} (h : H p = none) : Z.P p = none := GM.noneF S.keep h
/-- an owner's address -/
theorem SR.own (S : SR K Z F H σ env) {i : Nat} (o : Own env i) : ∃ a vs xs, σ[i]? = some (some (.ref a)) ∧ H a = some (.lst vs) ∧ F a = none ∧ Reps F vs xs ∧ Z.P a = none ∧ (get env i = some (.o xs) ∨ get env i = some (.r xs)) := by
  rcases o with ⟨xs, h⟩ | ⟨xs, h⟩
  · obtain ⟨v, e, a, vs, rfl, h1, h2, h3, h4, h5⟩ := S.slot i _ h
    exact ⟨a, vs, xs, e, h1, h2, h3, h5, .inl h⟩
  · obtain ⟨v, e, a, vs, rfl, h1, h2, h3, h4, h5⟩ := S.slot i _ h
    exact ⟨a, vs, xs, e, h1, h2, h3, h5, .inr h⟩
theorem RS.grow {v : V} {u : U} (S : SR K Z F H σ env) (g : Grow F H F' H') (h : RS K Z F H v u) : RS K Z F' H' v u := by
  cases u with
  | v d => exact Rep.mono g.f h
  | o xs =>
    obtain ⟨a, vs, e, h1, h2, h3, h4⟩ := h
    refine ⟨a, vs, e, g.h _ _ h1, ?_, h3.mono g.f, h4⟩
    cases q : F' a with
    | none => rfl
    | some x =>
      rcases g.new a (by rw [q]; simp) with z | z
      · exact absurd h2 z
      · rw [h1] at z; cases z
  | r xs =>
    obtain ⟨a, vs, e, h1, h2, h3, h4⟩ := h
    refine ⟨a, vs, e, g.h _ _ h1, ?_, h3.mono g.f, h4⟩
    cases q : F' a with
    | none => rfl
    | some x =>
      rcases g.new a (by rw [q]; simp) with z | z
      · exact absurd h2 z
      · rw [h1] at z; cases z
  | s ns => exact h
  | x c fs => exact h
theorem SR.grow (S : SR K Z F H σ env) (g : Grow F H F' H') : SR K Z F' H' σ env where
  len := S.len
  le := g.le
  keep := S.keep.trans g.h
  base := S.base.trans g.f
  new := fun b h => by
    rcases g.new b h with z | z
    · exact S.new b z
    · exact .inr ⟨S.dom b z, S.noneP z⟩
  dom := fun b h => S.dom b (g.h.free h)
  slot := fun i u h => by
    obtain ⟨v, e, r⟩ := S.slot i u h
    exact ⟨v, e, r.grow S g⟩
  dis := S.dis
  ref := S.ref
theorem RN.ru {v : V} {u : U} (S : SR K Z F H σ env) (h : RN H F' H' v u) : RU Z F' H' σ env v u := by
  cases u with
  | v d => exact h
  | o xs =>
    obtain ⟨p, vs, e, h1, h2, h3, h4⟩ := h
    refine ⟨p, vs, e, h2, h3, h4, S.dom p h1, S.noneP h1, fun i o z => ?_⟩
    obtain ⟨a, vs', xs', e1, e2, _⟩ := S.own o
    rw [z] at e1; cases e1; rw [h1] at e2; cases e2
  | r xs => exact h
  | s ns => exact h
  | x c fs => exact h
theorem SR.asg (S : SR K Z F H σ env) {i : Nat} (ao : asgOk env i) : Z.X i = none := by
  cases q : Z.X i with
  | none => rfl
  | some a =>
    obtain ⟨⟨xs, g⟩, _⟩ := S.ref i a q
    unfold asgOk at ao
    rw [g] at ao
    exact ao.elim
/-- an own result is frozen -/
theorem RU.fz {v : V} {u : U} {d : D} (S : SR K Z F H σ env) (h : RU Z F H σ env v u) (e : u.fz = some d) : ∃ F', Same F F' ∧ SR K Z F' H σ env ∧ Rep F' v d := by
  cases u with
  | v d' => cases e; exact ⟨F, same_refl, S, h⟩
  | o xs =>
    cases e
    obtain ⟨a, vs, rfl, h1, h2, h3, h4, h5, h6⟩ := h
    have sF : Same F (upd F a (.lst vs)) := same_upd h2
    refine ⟨upd F a (.lst vs), sF, ⟨S.len, fun b x q => ?_, S.keep, S.base.trans sF, fun b q => ?_, S.dom, fun i w q => ?_, S.dis, S.ref⟩, .lst upd_same (h3.mono sF)⟩
    · by_cases hb : b = a
      · subst hb; rw [upd_same] at q; cases q; exact h1
      · rw [upd_ne hb] at q; exact S.le _ _ q
    · by_cases hb : b = a
      · subst hb; exact .inr ⟨h4, h5⟩
      · rw [upd_ne hb] at q; exact S.new _ q
    · obtain ⟨v, e1, r⟩ := S.slot i w q
      refine ⟨v, e1, ?_⟩
      cases w with
      | v d => exact Rep.mono sF r
      | o ys =>
        obtain ⟨b, ws, rfl, k1, k2, k3, k4⟩ := r
        have nb : b ≠ a := fun z => h6 i (.inl ⟨ys, q⟩) (by rw [e1, z])
        exact ⟨b, ws, rfl, k1, by rw [upd_ne nb]; exact k2, k3.mono sF, k4⟩
      | r ys =>
        obtain ⟨b, ws, rfl, k1, k2, k3, k4⟩ := r
        have nb : b ≠ a := fun z => h6 i (.inr ⟨ys, q⟩) (by rw [e1, z])
        exact ⟨b, ws, rfl, k1, by rw [upd_ne nb]; exact k2, k3.mono sF, k4⟩
      | s ns => exact r
      | x c fs => exact r
  | r xs => cases e
  | s ns => cases e
  | x c fs => cases e
/-- a slot is frozen -/
theorem SR.esc {i : Nat} {p : U × Env} (S : SR K Z F H σ env) (e : escV env i = some p) : ∃ v F' d, p.1 = .v d ∧ σ[i]? = some (some v) ∧ Same F F' ∧ SR K Z F' H σ p.2 ∧ Rep F' v d := by
  unfold escV at e
  cases q : get env i with
  | none => rw [q] at e; cases e
  | some u =>
    rw [q] at e
    obtain ⟨v, e1, r⟩ := S.slot i u q
    cases u with
    | v d => cases e; exact ⟨v, F, d, rfl, e1, same_refl, S, r⟩
    | o xs =>
      cases e
      obtain ⟨a, vs, rfl, h1, h2, h3, h4, h5⟩ := r
      have sF : Same F (upd F a (.lst vs)) := same_upd h2
      refine ⟨.ref a, upd F a (.lst vs), .list xs, rfl, e1, sF, ⟨by rw [put_length]; exact S.len, fun b x q => ?_, S.keep, S.base.trans sF, fun b q => ?_, S.dom, fun j w q' => ?_, fun j k b ne oj ok => ?_, fun j b hj => ?_⟩, .lst upd_same (h3.mono sF)⟩
      · by_cases hb : b = a
        · subst hb; rw [upd_same] at q; cases q; exact h1
        · rw [upd_ne hb] at q; exact S.le _ _ q
      · by_cases hb : b = a
        · subst hb; exact .inr ⟨h4, h5⟩
        · rw [upd_ne hb] at q; exact S.new _ q
      · rcases get_put_some q' with ⟨ej, ew⟩ | ⟨ej, ew⟩
        · subst ej; cases ew; exact ⟨_, e1, .lst upd_same (h3.mono sF)⟩
        · obtain ⟨v, e2, r⟩ := S.slot j w ew
          refine ⟨v, e2, ?_⟩
          cases w with
          | v d => exact Rep.mono sF r
          | o ys =>
            obtain ⟨b, ws, rfl, k1, k2, k3, k4⟩ := r
            have nb : b ≠ a := fun z => S.dis i j a ej (.inl ⟨xs, q⟩) (.inl ⟨ys, ew⟩) e1 (by rw [e2, z])
            exact ⟨b, ws, rfl, k1, by rw [upd_ne nb]; exact k2, k3.mono sF, k4⟩
          | r ys =>
            obtain ⟨b, ws, rfl, k1, k2, k3, k4⟩ := r
            have nb : b ≠ a := fun z => S.dis i j a ej (.inl ⟨xs, q⟩) (.inr ⟨ys, ew⟩) e1 (by rw [e2, z])
            exact ⟨b, ws, rfl, k1, by rw [upd_ne nb]; exact k2, k3.mono sF, k4⟩
          | s ns => exact r
          | x c fs => exact r
      · have f : ∀ {j}, Own (put env i (some (.v (.list xs)))) j → Own env j := fun {j} o => by
          rcases o.put with ⟨_, ⟨_, z⟩ | ⟨_, z⟩⟩ | ⟨_, z⟩
          · cases z
          · cases z
          · exact z
        exact S.dis j k b ne (f oj) (f ok)
      · obtain ⟨⟨ys, g⟩, g2⟩ := S.ref j b hj
        have ij : i ≠ j := fun z => by subst z; rw [q] at g; cases g
        exact ⟨⟨ys, by rw [get_put_ne ij]; exact g⟩, g2⟩
    | r xs => cases e
    | s ns => cases e
    | x c fs => cases e
/-- a value is stored at a slot -/
theorem SR.store {i : Nat} {v : V} {u : U} (S : SR K Z F H σ env) (hi : i < env.length) (ao : Z.X i = none) (st : storable u) (h : RU Z F H σ env v u) : SR K Z F H (σ.set i (some v)) (put env i (some u)) := by
  have hiσ : i < σ.length := by rw [← S.len]; exact hi
  have other : ∀ {j : Nat}, i ≠ j → (σ.set i (some v))[j]? = σ[j]? := fun ne => List.getElem?_set_ne ne
  refine ⟨by rw [put_length, List.length_set]; exact S.len, S.le, S.keep, S.base, S.new, S.dom, fun j w q => ?_, fun j k a ne oj ok e1 e2 => ?_, fun j b hj => ?_⟩
  · rcases get_put_some q with ⟨e, ew⟩ | ⟨e, ew⟩
    · subst e; cases ew
      refine ⟨v, List.getElem?_set_self hiσ, ?_⟩
      cases u with
      | v d => exact h
      | o xs => obtain ⟨a, vs, h1, h2, h3, h4, h5, h6, _⟩ := h; exact ⟨a, vs, h1, h2, h3, h4, h5, h6⟩
      | r xs => exact st.elim
      | s ns => exact st.elim
      | x c fs => exact st.elim
    · obtain ⟨v', e1, r⟩ := S.slot j w ew
      exact ⟨v', by rw [other e]; exact e1, r⟩
  · have f : ∀ {j}, Own (put env i (some u)) j → (i = j ∧ ∃ xs, u = .o xs) ∨ (i ≠ j ∧ Own env j) := fun {j} o => by
      rcases o.put with ⟨e, ⟨xs, z⟩ | ⟨xs, z⟩⟩ | z
      · cases z; exact .inl ⟨e, xs, rfl⟩
      · cases z; exact st.elim
      · exact .inr z
    rcases f oj with ⟨ej, xs, hu⟩ | ⟨ej, oj'⟩
    · subst ej; subst hu
      rcases f ok with ⟨ek, _⟩ | ⟨ek, ok'⟩
      · exact ne ek
      · obtain ⟨b, vs, rfl, _, _, _, _, _, h7⟩ := h
        rw [List.getElem?_set_self hiσ] at e1; cases e1
        rw [other ek] at e2
        exact h7 k ok' e2
    · rcases f ok with ⟨ek, xs, hu⟩ | ⟨ek, ok'⟩
      · subst ek; subst hu
        obtain ⟨b, vs, rfl, _, _, _, _, _, h7⟩ := h
        rw [List.getElem?_set_self hiσ] at e2; cases e2
        rw [other ej] at e1
        exact h7 j oj' e1
      · rw [other ej] at e1; rw [other ek] at e2
        exact S.dis j k a ne oj' ok' e1 e2
  · obtain ⟨⟨ys, g⟩, g2⟩ := S.ref j b hj
    have ij : i ≠ j := fun z => by subst z; rw [ao] at hj; cases hj
    exact ⟨⟨ys, by rw [get_put_ne ij]; exact g⟩, by rw [List.getElem?_set_ne ij]; exact g2⟩
/-- a slot is forgotten -/
theorem SR.forget {i : Nat} {ov : Option V} (ao : Z.X i = none) (S : SR K Z F H σ env) : SR K Z F H (σ.set i ov) (GM.put env i none) := by
  refine ⟨by rw [put_length, List.length_set]; exact S.len, S.le, S.keep, S.base, S.new, S.dom, fun j w q => ?_, fun j k a ne oj ok e1 e2 => ?_, fun j b hj => ?_⟩
  · rcases get_put_some q with ⟨e, ew⟩ | ⟨e, ew⟩
    · cases ew
    · obtain ⟨v', e1, r⟩ := S.slot j w ew
      exact ⟨v', by rw [List.getElem?_set_ne e]; exact e1, r⟩
  · rcases oj.put with ⟨_, ⟨_, z⟩ | ⟨_, z⟩⟩ | ⟨nj, oj'⟩
    · cases z
    · cases z
    rcases ok.put with ⟨_, ⟨_, z⟩ | ⟨_, z⟩⟩ | ⟨nk, ok'⟩
    · cases z
    · cases z
    rw [List.getElem?_set_ne nj] at e1
    rw [List.getElem?_set_ne nk] at e2
    exact S.dis j k a ne oj' ok' e1 e2
  · obtain ⟨⟨ys, g⟩, g2⟩ := S.ref j b hj
    have ij : i ≠ j := fun z => by subst z; rw [ao] at hj; cases hj
    exact ⟨⟨ys, by rw [get_put_ne ij]; exact g⟩, by rw [List.getElem?_set_ne ij]; exact g2⟩
/-- .. in the plain state alone -/
theorem SR.forget' {i : Nat} (ao : Z.X i = none) (S : SR K Z F H σ env) : SR K Z F H σ (GM.put env i none) := by
  refine ⟨by rw [put_length]; exact S.len, S.le, S.keep, S.base, S.new, S.dom, fun j w q => ?_, fun j k a ne oj ok e1 e2 => ?_, fun j b hj => ?_⟩
  · rcases get_put_some q with ⟨e, ew⟩ | ⟨e, ew⟩
    · cases ew
    · exact S.slot j w ew
  · rcases oj.put with ⟨_, ⟨_, z⟩ | ⟨_, z⟩⟩ | ⟨nj, oj'⟩
    · cases z
    · cases z
    rcases ok.put with ⟨_, ⟨_, z⟩ | ⟨_, z⟩⟩ | ⟨nk, ok'⟩
    · cases z
    · cases z
    exact S.dis j k a ne oj' ok' e1 e2
  · obtain ⟨⟨ys, g⟩, g2⟩ := S.ref j b hj
    have ij : i ≠ j := fun z => by subst z; rw [ao] at hj; cases hj
    exact ⟨⟨ys, by rw [get_put_ne ij]; exact g⟩, g2⟩
/-- an own list is changed -/
theorem SR.change {i : Nat} {xs ys : List D} {vs : List V} {a : Addr} (S : SR K Z F H σ env) (e : cellOf env i = some xs) (ea : σ[i]? = some (some (.ref a))) (r : Reps F vs ys) :
    SR K Z F (upd H a (.lst vs)) σ (putR env i (.r ys)) := by
  have main : ∀ (u : U), (u = .o ys ∨ u = .r ys) → (∀ w, get env i = some w → (u = .o ys → ∃ zs, w = .o zs) ∧ (u = .r ys → ∃ zs, w = .r zs)) → Own env i → SR K Z F (upd H a (.lst vs)) σ (GM.put env i (some u)) := by
    intro u hu hw ho
    obtain ⟨a', ws, zs, e1, h1, h2, h3, h4, h5⟩ := S.own ho
    rw [ea] at e1; cases e1
    refine ⟨by rw [put_length]; exact S.len, same_updF S.le h2, same_updF S.keep h4, S.base, S.new, fun b q => ?_, fun j w q => ?_, fun j k b ne oj ok => ?_, fun j b hj => ?_⟩
    · by_cases hb : b = a
      · subst hb; rw [upd_same] at q; cases q
      · rw [upd_ne hb] at q; exact S.dom b q
    · rcases get_put_some q with ⟨ej, ew⟩ | ⟨ej, ew⟩
      · subst ej; cases ew
        refine ⟨.ref a, ea, ?_⟩
        rcases h5 with g | g
        · obtain ⟨v, e2, b, us, ev, k1, k2, k3, k4, k5⟩ := S.slot i _ g
          rw [ea] at e2; cases e2; cases ev
          rcases hu with rfl | rfl
          · exact ⟨a, vs, rfl, upd_same, h2, r, k4, k5⟩
          · obtain ⟨zs', q'⟩ := (hw _ g).2 rfl; cases q'
        · obtain ⟨v, e2, b, us, ev, k1, k2, k3, k4, k5⟩ := S.slot i _ g
          rw [ea] at e2; cases e2; cases ev
          rcases hu with rfl | rfl
          · obtain ⟨zs', q'⟩ := (hw _ g).1 rfl; cases q'
          · exact ⟨a, vs, rfl, upd_same, h2, r, k4, k5⟩
      · obtain ⟨v, e2, rr⟩ := S.slot j w ew
        refine ⟨v, e2, ?_⟩
        cases w with
        | v d => exact rr
        | o ts =>
          obtain ⟨b, us, rfl, k1, k2, k3, k4⟩ := rr
          have nb : b ≠ a := fun z => S.dis i j a ej ho (.inl ⟨ts, ew⟩) ea (by rw [e2, z])
          exact ⟨b, us, rfl, by rw [upd_ne nb]; exact k1, k2, k3, k4⟩
        | r ts =>
          obtain ⟨b, us, rfl, k1, k2, k3, k4⟩ := rr
          have nb : b ≠ a := fun z => S.dis i j a ej ho (.inr ⟨ts, ew⟩) ea (by rw [e2, z])
          exact ⟨b, us, rfl, by rw [upd_ne nb]; exact k1, k2, k3, k4⟩
        | s ns => exact rr
        | x c fs => exact rr
    · have f : ∀ {j}, Own (GM.put env i (some u)) j → Own env j := fun {j} o => by
        rcases o.put with ⟨ej, _⟩ | ⟨_, z⟩
        · subst ej; exact ho
        · exact z
      exact S.dis j k b ne (f oj) (f ok)
    · obtain ⟨⟨zs', g⟩, g2⟩ := S.ref j b hj
      by_cases ij : i = j
      · subst ij
        rcases hu with rfl | rfl
        · obtain ⟨zs2, q'⟩ := (hw _ g).1 rfl; cases q'
        · exact ⟨⟨ys, get_put_same (get_some_lt g)⟩, g2⟩
      · exact ⟨⟨zs', by rw [get_put_ne ij]; exact g⟩, g2⟩
  unfold cellOf at e
  simp only [putR_eq]; unfold putR0
  cases q : get env i with
  | none => rw [q] at e; cases e
  | some u =>
    rw [q] at e
    cases u with
    | o zs => exact main (.o ys) (.inl rfl) (fun w hw => ⟨fun _ => ⟨zs, by rw [q] at hw; cases hw; rfl⟩, fun z => by cases z⟩) (.inl ⟨zs, q⟩)
    | r zs => exact main (.r ys) (.inr rfl) (fun w hw => ⟨fun z => (by cases z), fun _ => ⟨zs, by rw [q] at hw; cases hw; rfl⟩⟩) (.inr ⟨zs, q⟩)
    | v d => cases e
    | s ns => cases e
    | x c fs => cases e
theorem SR.cell {i : Nat} {xs : List D} (S : SR K Z F H σ env) (e : cellOf env i = some xs) : ∃ a vs, σ[i]? = some (some (.ref a)) ∧ H a = some (.lst vs) ∧ Reps F vs xs ∧ F a = none := by
  unfold cellOf at e
  cases q : get env i with
  | none => rw [q] at e; cases e
  | some u =>
    rw [q] at e
    obtain ⟨v, e1, r⟩ := S.slot i u q
    cases u with
    | o zs => cases e; obtain ⟨a, vs, rfl, h1, h2, h3, _⟩ := r; exact ⟨a, vs, e1, h1, h3, h2⟩
    | r zs => cases e; obtain ⟨a, vs, rfl, h1, h2, h3, _⟩ := r; exact ⟨a, vs, e1, h1, h3, h2⟩
    | v d => cases e
    | s ns => cases e
    | x c fs => cases e

/-! ### operands -/
def RO (F : Hp) (σ : L2.St) (v : V) : Op → Prop
  | .d d => Rep F v d
  | .var i => σ[i]? = some (some v)
theorem RO.mono {v : V} {o : Op} (s : Same F F') (h : RO F σ v o) : RO F' σ v o := by
  cases o with
  | d d => exact Rep.mono s h
  | var i => exact h
theorem RO.rd {v : V} {o : Op} {d : D} {F0 : Hp} (S : SR K Z F H σ env) (s : Same F0 F) (h : RO F0 σ v o) (e : rdv env o = some d) : Rd F H v d := by
  cases o with
  | d d' => cases e; exact .v (Rep.mono s h)
  | var i =>
    unfold rdv at e
    dsimp only at e
    cases q : get env i with
    | none => rw [q] at e; cases e
    | some u =>
      rw [q] at e
      obtain ⟨v', e1, r⟩ := S.slot i u q
      have h' : σ[i]? = some (some v) := h
      rw [h'] at e1; cases e1
      cases u with
      | v d => cases e; exact .v r
      | o xs => cases e; obtain ⟨a, vs, rfl, h1, h2, h3, _⟩ := r; exact .l h1 h3
      | r xs => cases e; obtain ⟨a, vs, rfl, h1, h2, h3, _⟩ := r; exact .l h1 h3
      | s ns => cases e
      | x c fs => cases e
end
def ROs (F : Hp) (σ : L2.St) : List V → List Op → Prop := Paired (fun v o => RO F σ v o)
def Rds (F H : Hp) : List V → List D → Prop := Paired (fun v d => Rd F H v d)
theorem ROs.rds {K : PySem.W.Frag} {Z : Zt} {F H F0 : Hp} {σ : L2.St} {env : Env} (S : SR K Z F H σ env) (s : Same F0 F) : ∀ {vs : List V} {os : List Op} {ds : List D}, ROs F0 σ vs os → rdvs env os = some ds → Rds F H vs ds
  | _, _, _, .nil, e => by cases e; exact .nil
  | _, _, ds, .cons (b := o) (l₂ := os) h t, e => by
    simp only [rdvs] at e
    cases q : rdv env o with
    | none => rw [q] at e; cases e
    | some d =>
      rw [q] at e
      cases q2 : rdvs env os with
      | none => rw [q2] at e; cases e
      | some ds' => rw [q2] at e; cases e; exact .cons (RO.rd S s h q) (ROs.rds S s t q2)
theorem ROs.mono {F F' : Hp} {σ : L2.St} (s : Same F F') : ∀ {vs : List V} {os : List Op}, ROs F σ vs os → ROs F' σ vs os
  | _, _, .nil => .nil
  | _, _, .cons h t => .cons (RO.mono s h) (ROs.mono s t)
end GM

set_option maxRecDepth 100000
/-! GM: the operations keep what they say -/
namespace GM
open PySem PySem.Spec PyProof.Rows L2
theorem limLine : LIM = sizeLine := by rw [sizeLine_eq]; rfl
def opOf : BOp → Operator
  | .add => .Add | .sub => .Sub | .mul => .Mult | .fdiv => .FloorDiv | .mod => .Mod | .pow => .Pow | .shl => .LShift | .shr => .RShift | .band => .BitAnd | .bor => .BitOr
def rBin (op : BOp) : R2 := fun x y H Q => ∃ F dx dy r, Same F H ∧ Rd F H x dx ∧ Rd F H y dy ∧ binD op dx dy = some r ∧ binC op dx dy ∧ ∀ v F' H', Grow F H F' H' → RN H F' H' v r → Q v H'
section
variable {X : Cx}
theorem mulC_or {i j : Int} (h : mulC i j) : CMul i j ∨ CMulW i j := h
theorem op_bin (op : BOp) : OpR X (binaryOp (opOf op)) (rBin op) := by
  intro pins s σ H x y v u Q I rx ry h
  obtain ⟨F, dx, dy, r, sF, h1, h2, e, c, q⟩ := h
  cases op with
  | add =>
    cases dx with
    | int i => cases dy with
      | int j =>
        cases h1.int; cases h2.int; cases e
        exact op_add pins s σ H _ _ v u Q I rx ry ⟨_, _, rfl, rfl, q _ F H (.refl sF) (.int _)⟩
      | _ => cases e
    | str i => cases dy with
      | str j =>
        cases h1.str; cases h2.str; cases e
        exact op_add_str pins s σ H _ _ v u Q I rx ry ⟨_, _, rfl, rfl, by rw [← limLine]; exact c, q _ F H (.refl sF) (.str _)⟩
      | _ => cases e
    | tuple xs => cases dy with
      | tuple ys =>
        obtain ⟨a, vs, rfl, ha, fa, ra⟩ := h1.tup sF
        obtain ⟨b, ws, rfl, hb, fb, rb⟩ := h2.tup sF
        cases e
        have c' : xs.length + ys.length ≤ LIM := c
        refine op_catA pins s σ H _ _ v u Q I rx ry ⟨a, b, vs, ws, rfl, rfl, SqT.of ha, SqT.of hb, by rw [ra.length, rb.length, ← limLine]; exact c', fun z => ?_, fun z z2 => ?_, fun z z2 p hp => ?_⟩
        · have e0 := ra.nil_iff.mp z
          subst e0
          exact q _ F H (.refl sF) (by rw [List.nil_append]; exact .tup fb rb)
        · have e0 := rb.nil_iff.mp z2
          subst e0
          exact q _ F H (.refl sF) (by rw [List.append_nil]; exact .tup fa ra)
        · have fp := noneF sF hp
          exact q _ _ _ (Grow.froz sF hp) (.tup upd_same ((ra.append rb).mono (same_upd fp)))
      | _ => cases e
    | list xs => cases dy with
      | list ys =>
        obtain ⟨a, vs, rfl, ha, ra⟩ := h1.lst sF
        obtain ⟨b, ws, rfl, hb, rb⟩ := h2.lst sF
        cases e
        have c' : xs.length + ys.length ≤ LIM := c
        exact op_cat pins s σ H _ _ v u Q I rx ry ⟨a, b, vs, ws, rfl, rfl, ha, hb, by rw [ra.length, rb.length, ← limLine]; exact c', fun p hp =>
          q _ _ _ (Grow.own sF hp) ⟨p, _, rfl, hp, upd_same, noneF sF hp, ra.append rb⟩⟩
      | _ => cases e
    | _ => cases e
  | sub =>
    cases dx with
    | int i => cases dy with
      | int j =>
        cases h1.int; cases h2.int; cases e
        exact op_sub pins s σ H _ _ v u Q I rx ry ⟨_, _, rfl, rfl, q _ F H (.refl sF) (.int _)⟩
      | _ => cases e
    | _ => cases e
  | mul =>
    cases dx with
    | int i => cases dy with
      | int j =>
        cases h1.int; cases h2.int; cases e
        rcases mulC_or c with c | c
        · exact op_mul pins s σ H _ _ v u Q I rx ry ⟨_, _, rfl, rfl, c, q _ F H (.refl sF) (.int _)⟩
        · exact op_mulW pins s σ H _ _ v u Q I rx ry ⟨_, _, rfl, rfl, c, q _ F H (.refl sF) (.int _)⟩
      | _ => cases e
    | list xs => cases dy with
      | int k =>
        obtain ⟨a, vs, rfl, ha, ra⟩ := h1.lst sF
        cases h2.int; cases e
        obtain ⟨c1, c2, c3⟩ := c
        exact op_rep pins s σ H _ _ v u Q I rx ry ⟨a, k, vs, rfl, rfl, ha, c1, c2, by rw [ra.length, ← limLine]; exact c3, fun p hp =>
          q _ _ _ (Grow.own sF hp) ⟨p, _, rfl, hp, upd_same, noneF sF hp, ra.rep _⟩⟩
      | _ => cases e
    | tuple xs => cases dy with
      | int k =>
        obtain ⟨a, vs, rfl, ha, fa, ra⟩ := h1.tup sF
        cases h2.int; cases e
        obtain ⟨c1, c2, c3⟩ := (show xs.length ≤ 1000 ∧ k ≤ 1000 ∧ 1 ≤ k from c)
        by_cases hz : xs = [] ∨ k = 1
        · refine op_rep1 pins s σ H _ _ v u Q I rx ry ⟨a, k, vs, rfl, rfl, SqT.of ha, ?_, by omega, by omega, q _ F H (.refl sF) ?_⟩
          · rcases hz with hz | hz
            · exact .inl (ra.nil_iff.mpr hz)
            · exact .inr hz
          · have e2 : (List.replicate k.toNat xs).flatten = xs := by
              rcases hz with hz | hz
              · rw [hz]; simp
              · rw [hz]; simp
            rw [e2]
            exact .tup fa ra
        · have c4 : xs ≠ [] := fun z => hz (.inl z)
          have c5 : k ≠ 1 := fun z => hz (.inr z)
          exact op_repT pins s σ H _ _ v u Q I rx ry ⟨a, k, vs, rfl, rfl, SqT.of ha, fun z => c4 (ra.nil_iff.mp z), by omega, c2, by rw [ra.length]; exact c1, fun p hp =>
            q _ _ _ (Grow.froz sF hp) (.tup upd_same ((ra.rep _).mono (same_upd (noneF sF hp))))⟩
      | _ => cases e
    | _ => cases e
  | fdiv =>
    cases dx with
    | int i => cases dy with
      | int j =>
        cases h1.int; cases h2.int; cases e
        obtain ⟨c1, c2 | c2⟩ := c
        · exact op_fdiv pins s σ H _ _ v u Q I rx ry ⟨_, _, rfl, rfl, ⟨c1, c2⟩, q _ F H (.refl sF) (.int _)⟩
        · exact op_fdivW pins s σ H _ _ v u Q I rx ry ⟨_, _, rfl, rfl, ⟨c1, c2⟩, q _ F H (.refl sF) (.int _)⟩
      | _ => cases e
    | _ => cases e
  | mod =>
    cases dx with
    | int i => cases dy with
      | int j =>
        cases h1.int; cases h2.int; cases e
        exact op_mod pins s σ H _ _ v u Q I rx ry ⟨_, _, rfl, rfl, c, q _ F H (.refl sF) (.int _)⟩
      | _ => cases e
    | _ => cases e
  | pow =>
    cases dx with
    | int i => cases dy with
      | int j =>
        cases h1.int; cases h2.int; cases e
        exact op_pow pins s σ H _ _ v u Q I rx ry ⟨_, _, rfl, rfl, c, q _ F H (.refl sF) (.int _)⟩
      | _ => cases e
    | _ => cases e
  | shl =>
    cases dx with
    | int i => cases dy with
      | int j =>
        cases h1.int; cases h2.int; cases e
        exact op_shl pins s σ H _ _ v u Q I rx ry ⟨_, _, rfl, rfl, c, q _ F H (.refl sF) (.int _)⟩
      | _ => cases e
    | _ => cases e
  | shr =>
    cases dx with
    | int i => cases dy with
      | int j =>
        cases h1.int; cases h2.int; cases e
        exact op_shr pins s σ H _ _ v u Q I rx ry ⟨_, _, rfl, rfl, c, q _ F H (.refl sF) (.int _)⟩
      | _ => cases e
    | _ => cases e
  | band =>
    cases dx with
    | int i => cases dy with
      | int j =>
        cases h1.int; cases h2.int; cases e
        exact op_and pins s σ H _ _ v u Q I rx ry ⟨_, _, rfl, rfl, q _ F H (.refl sF) (.int _)⟩
      | _ => cases e
    | _ => cases e
  | bor =>
    cases dx with
    | int i => cases dy with
      | int j =>
        cases h1.int; cases h2.int; cases e
        exact op_or pins s σ H _ _ v u Q I rx ry ⟨_, _, rfl, rfl, q _ F H (.refl sF) (.int _)⟩
      | _ => cases e
    | _ => cases e

/-! ### comparisons -/
def copOf : COp → CmpOp
  | .lt => .Lt | .le => .LtE | .gt => .Gt | .ge => .GtE | .eq => .Eq | .ne => .NotEq | .is_ => .Is | .isnot => .IsNot | .in_ => .In | .notin => .NotIn
def rCmp (op : COp) : R2 := fun x y H Q => ∃ F dx dy r, Same F H ∧ Rd F H x dx ∧ Rd F H y dy ∧ cmpD op dx dy = some r ∧ cmpC op dx dy ∧ Q (.bl r) H
theorem Rd.is_non {F H : Hp} {x : V} {d : D} (h : Rd F H x d) : decide (x = .non) = isN d := by
  cases h with
  | v h => cases h <;> rfl
  | l e r => rfl
theorem layT {ys : List D} (h : shapedP (.tuple ys)) : PyData.canLayAll0 ys = true := by
  have := SeqAt.canLay_of_shaped h
  simpa [PyData.canLay0] using this
theorem op_cmp (op : COp) (hu : X.A.units + 65 < cLine) : OpR X (compareOp (copOf op)) (rCmp op) := by
  intro pins s σ H x y v u Q I rx ry h
  obtain ⟨F, dx, dy, r, sF, h1, h2, e, c, q⟩ := h
  have hu0 : X.A.units < cLine := by omega
  have hu64 : X.A.units + 64 < cLine := by omega
  cases op with
  | lt =>
    cases dx with
    | int i => cases dy with
      | int j => cases h1.int; cases h2.int; cases e; exact op_lt pins s σ H _ _ v u Q I rx ry ⟨_, _, rfl, rfl, q⟩
      | _ => cases e
    | tuple xs => cases dy with
      | tuple ys =>
        obtain ⟨a, vs, rfl, ha, fa, ra⟩ := h1.tup sF
        obtain ⟨b, ws, rfl, hb, fb, rb⟩ := h2.tup sF
        simp only [cmpD] at e
        cases e1 : intsD xs with
        | none => rw [e1] at e; cases e
        | some ns =>
          cases e2 : intsD ys with
          | none => rw [e1, e2] at e; cases e
          | some ms =>
            rw [e1, e2] at e
            cases e
            have := ra.ints e1
            subst this
            have := rb.ints e2
            subst this
            exact op_ltT hu0 pins s σ H _ _ v u Q I rx ry ⟨_, _, _, _, rfl, rfl, SqT.of ha, SqT.of hb, q⟩
      | _ => cases e
    | _ => cases e
  | le =>
    cases dx with
    | int i => cases dy with
      | int j => cases h1.int; cases h2.int; cases e; exact op_le pins s σ H _ _ v u Q I rx ry ⟨_, _, rfl, rfl, q⟩
      | _ => cases e
    | _ => cases e
  | gt =>
    cases dx with
    | int i => cases dy with
      | int j => cases h1.int; cases h2.int; cases e; exact op_gt pins s σ H _ _ v u Q I rx ry ⟨_, _, rfl, rfl, q⟩
      | _ => cases e
    | _ => cases e
  | ge =>
    cases dx with
    | int i => cases dy with
      | int j => cases h1.int; cases h2.int; cases e; exact op_ge pins s σ H _ _ v u Q I rx ry ⟨_, _, rfl, rfl, q⟩
      | _ => cases e
    | _ => cases e
  | eq =>
    cases e
    exact op_eqD hu64 pins s σ H _ _ v u Q I rx ry ⟨dx, dy, h1.dp sF c.1, h2.dp sF c.2, c.1, c.2, q⟩
  | ne =>
    cases e
    exact op_neD hu64 pins s σ H _ _ v u Q I rx ry ⟨dx, dy, h1.dp sF c.1, h2.dp sF c.2, c.1, c.2, q⟩
  | is_ =>
    cases dy with
    | none =>
      cases e; cases h2.non
      refine op_isN pins s σ H _ _ v u Q I rx ry ⟨rfl, ?_⟩
      rw [h1.is_non]; exact q
    | bool b => cases dx with
      | bool a => cases h1.bl; cases h2.bl; cases e; exact op_is_bl pins s σ H _ _ v u Q I rx ry ⟨_, _, rfl, rfl, by rw [Bool.beq_eq_decide_eq] at q; exact q⟩
      | _ => cases e
    | _ => cases dx <;> cases e
  | isnot =>
    cases dy with
    | none =>
      cases e; cases h2.non
      refine op_notN pins s σ H _ _ v u Q I rx ry ⟨rfl, ?_⟩
      rw [h1.is_non]
      exact q
    | bool b => cases dx with
      | bool a => cases h1.bl; cases h2.bl; cases e; exact op_isnot_bl pins s σ H _ _ v u Q I rx ry ⟨_, _, rfl, rfl, by rw [Bool.beq_eq_decide_eq] at q; exact q⟩
      | _ => cases e
    | _ => cases dx <;> cases e
  | in_ =>
    cases dy with
    | list ys => cases e; exact op_inD hu pins s σ H _ _ v u Q I rx ry ⟨dx, ys, h1.dp sF c.1, h2.dp sF c.2, c.1, c.2, q⟩
    | tuple ys =>
      cases e
      obtain ⟨as, r1⟩ := Dp.reads I dx x v (h1.dp sF c.1) rx
      obtain ⟨bs, r2⟩ := Dp.reads I (.tuple ys) y u (h2.dp sF c.2) ry
      exact SeqAt.in_tuple_reads r2 r1 (layT c.2) (SeqAt.canLay_of_shaped c.1) (room_in_shaped c.1 hu) ⟨.bl _, H, I, rfl, q⟩
    | _ => cases e
  | notin =>
    cases dy with
    | list ys => cases e; exact op_notInD hu pins s σ H _ _ v u Q I rx ry ⟨dx, ys, h1.dp sF c.1, h2.dp sF c.2, c.1, c.2, q⟩
    | tuple ys =>
      cases e
      obtain ⟨as, r1⟩ := Dp.reads I dx x v (h1.dp sF c.1) rx
      obtain ⟨bs, r2⟩ := Dp.reads I (.tuple ys) y u (h2.dp sF c.2) ry
      exact SeqAt.notIn_tuple_reads r2 r1 (layT c.2) (SeqAt.canLay_of_shaped c.1) (room_in_shaped c.1 hu) ⟨.bl _, H, I, rfl, q⟩
    | _ => cases e

/-! ### subscripts, slices -/
theorem atD_atI {α : Type} {xs : List α} {i : Int} {x : α} (h : atD xs i = some x) : atI xs i = some x := by
  cases i with
  | ofNat n => exact atI_nat (j := n) h
  | negSucc n =>
    simp only [atD] at h
    split at h
    · rename_i hn
      unfold atI ixN
      rw [if_neg (by omega), if_pos (by omega)]
      show xs[((Int.negSucc n) + (xs.length : Int)).toNat]? = some x
      have e : ((Int.negSucc n) + (xs.length : Int)).toNat = xs.length - (n + 1) := by omega
      rw [e]; exact h
    · cases h
theorem Reps.atI {F : Hp} {vs : List V} {ds : List D} {i : Int} {d : D} (r : Reps F vs ds) (h : atD ds i = some d) : ∃ v, L2.atI vs i = some v ∧ Rep F v d := by
  have h' := atD_atI h
  unfold L2.atI at h' ⊢
  rw [r.length]
  cases e : ixN ds.length i with
  | none => rw [e] at h'; cases h'
  | some j => rw [e] at h'; obtain ⟨v, h1, h2⟩ := r.get h'; exact ⟨v, h1, h2⟩
def rIdx : R2 := fun x y H Q => ∃ F dx dy d, Same F H ∧ Rd F H x dx ∧ Rd F H y dy ∧ idxD dx dy = some d ∧ ∀ v, Rep F v d → Q v H
theorem ix_D : IxR X rIdx := by
  intro val sli pins s σ H x y v u Q I rx ry h hsub
  obtain ⟨F, dx, dy, d, sF, h1, h2, e, q⟩ := h
  cases dx with
  | list xs => cases dy with
    | int i =>
      obtain ⟨a, vs, rfl, ha, ra⟩ := h1.lst sF
      cases h2.int
      obtain ⟨w, h3, h4⟩ := ra.atI e
      exact ix_list val sli pins s σ H _ _ v u Q I rx ry ⟨_, _, _, _, rfl, rfl, SqL.of ha, h3, q _ h4⟩ hsub
    | _ => cases e
  | tuple xs => cases dy with
    | int i =>
      obtain ⟨a, vs, rfl, ha, fa, ra⟩ := h1.tup sF
      cases h2.int
      obtain ⟨w, h3, h4⟩ := ra.atI e
      exact ix_tup val sli pins s σ H _ _ v u Q I rx ry ⟨_, _, _, _, rfl, rfl, SqT.of ha, h3, q _ h4⟩ hsub
    | _ => cases e
  | _ => cases e
def rSlc : V → Option Int → Option Int → Hp → VK → Prop := fun x lo hi H Q => ∃ F dx r, Same F H ∧ Rd F H x dx ∧ slcD dx lo hi = some r ∧ ∀ v F' H', Grow F H F' H' → RN H F' H' v r → Q v H'
theorem cutL_whole {α : Type} (xs : List α) {lo hi : Option Int} (h : HT.sIx xs.length 0 lo = 0 ∧ HT.sIx xs.length xs.length hi = xs.length) : cutL xs lo hi = xs := by
  unfold cutL; rw [h.1, h.2]; simp
theorem sl_D : SlR X rSlc := by
  intro pins s σ H x v vl vu lo hi sl Q I rx hs pl pu h
  obtain ⟨F, dx, r, sF, h1, e, q⟩ := h
  cases dx with
  | list xs =>
    obtain ⟨a, vs, rfl, ha, ra⟩ := h1.lst sF
    cases e
    exact sl_list pins s σ H _ v vl vu lo hi sl Q I rx hs pl pu ⟨a, vs, rfl, SqL.of ha, fun p hp => q _ _ _ (Grow.own sF hp) ⟨p, _, rfl, hp, upd_same, noneF sF hp, ra.cut lo hi⟩⟩
  | tuple xs =>
    obtain ⟨a, vs, rfl, ha, fa, ra⟩ := h1.tup sF
    cases e
    refine sl_tupA pins s σ H _ v vl vu lo hi sl Q I rx hs pl pu ⟨a, vs, rfl, SqT.of ha, fun z => ?_, fun z p hp => ?_⟩
    · rw [ra.length] at z
      refine q _ F H (.refl sF) ?_
      show Rep F _ (.tuple (cutL xs lo hi))
      rw [cutL_whole xs z]; exact .tup fa ra
    · exact q _ _ _ (Grow.froz sF hp) (.tup upd_same ((ra.cut lo hi).mono (same_upd (noneF sF hp))))
  | _ => cases e
/-- a slice of the script -/
def rSlcS (K : PySem.W.Frag) : V → Option Int → Option Int → Hp → VK → Prop := fun x lo hi H Q => ∃ (F : Hp) (a : Addr) (ns : List Int), Same F H ∧ x = .ref a ∧ SqL K H a (ns.map V.int) ∧ ∀ v F' H', Grow F H F' H' → RN H F' H' v (.o (cutL (ns.map PyData.int) lo hi)) → Q v H'
theorem sl_S : SlR X (rSlcS X.K) := by
  intro pins s σ H x v vl vu lo hi sl Q I rx hs pl pu h
  obtain ⟨F, a, ns, sF, rfl, ha, q⟩ := h
  exact sl_list pins s σ H _ v vl vu lo hi sl Q I rx hs pl pu ⟨a, _, rfl, ha, fun p hp => q _ _ _ (Grow.own sF hp) ⟨p, _, rfl, hp, upd_same, noneF sF hp, (Reps.of_ints ns).cut lo hi⟩⟩
/-! ### own lists are changed -/
theorem set_D {F H : Hp} {a : Addr} {vs : List V} {xs ys : List D} {v : V} {d y : D} {w : V} (r : Reps F vs xs) (h : Rep F v d) (hy : Rd F H w y) (e : setAt xs y d = some ys) :
    ∃ k j, w = .int k ∧ ixN vs.length k = some j ∧ Reps F (vs.set j v) ys := by
  cases y with
  | int k =>
    simp only [setAt] at e
    rw [r.length]
    cases q : ixN xs.length k with
    | none => rw [q] at e; cases e
    | some j => rw [q] at e; cases e; exact ⟨k, j, hy.int, q, r.set h j⟩
  | _ => cases e
/-- a method of an own list, by values -/
def rMth (mn : MN) : V → List V → Hp → VK → Prop := fun x zs H Q => ∃ F a vs xs ds p, Same F H ∧ x = .ref a ∧ H a = some (.lst vs) ∧ F a = none ∧ Reps F vs xs ∧ Reps F zs ds ∧ mthD mn xs ds = some p ∧ mthC mn xs ds ∧
  ∀ v vs', Rep F v p.1 → Reps F vs' p.2 → Q v (upd H a (.lst vs'))
def mnId : MN → String
  | .append => "list.append" | .pop => "list.pop" | .popAt => "list.pop" | .extend => "list.extend" | .insert => "list.insert" | .reverse => "list.reverse"
theorem Reps.nil_l {F : Hp} {vs : List V} (r : Reps F vs []) : vs = [] := by cases r; rfl
theorem Reps.one_l {F : Hp} {vs : List V} {d : D} (r : Reps F vs [d]) : ∃ v, vs = [v] ∧ Rep F v d := by
  cases r with | cons h t => cases t; exact ⟨_, rfl, h⟩
theorem MtM.mtr {id : String} {r : V → List V → Hp → VK → Prop} (h : MtM X id r) : MtR X id r := h
theorem mt_mth (mn : MN) : MtR X (mnId mn) (rMth mn) := by
  intro pins s σ H x zs v us Q I rx rz h
  obtain ⟨F, a, vs, xs, ds, p, sF, rfl, ha, fa, r, rd, e, c, q⟩ := h
  cases mn with
  | append =>
    match ds, e, c with
    | [y], e, c =>
      obtain ⟨w, rfl, hw⟩ := rd.one_l
      cases e
      exact (mt_append) pins s σ H _ _ v us Q I rx rz ⟨a, vs, w, rfl, rfl, ha, by rw [r.length, ← limLine]; exact c, q _ _ .non (r.append (.one hw))⟩
    | [], e, _ => cases e
    | _ :: _ :: _, e, _ => cases e
  | pop =>
    match ds, e with
    | [], e =>
      cases rd.nil_l
      simp only [mthD] at e
      cases g : xs.getLast? with
      | none => rw [g] at e; cases e
      | some y =>
        rw [g] at e; cases e
        rw [List.getLast?_eq_getElem?] at g
        obtain ⟨w, h1, h2⟩ := r.get g
        exact (mt_pop) pins s σ H _ _ v us Q I rx rz ⟨a, vs, w, rfl, rfl, ha, by rw [r.length]; exact h1, q _ _ h2 r.dropLast⟩
    | _ :: _, e => cases e
  | popAt =>
    match ds, e with
    | [.int i], e =>
      obtain ⟨w, rfl, hw⟩ := rd.one_l
      cases hw
      simp only [mthD] at e
      cases g : atD xs i with
      | none => rw [g] at e; cases e
      | some y =>
        rw [g] at e; cases e
        obtain ⟨w, h1, h2⟩ := r.atI g
        obtain ⟨z, its, n, rv, hl, _⟩ := I.lstM ha
        obtain ⟨j, h3, h4, h5, h6, h7⟩ := atI_get h1
        have hz : vs.length ≤ 16777216 := by rw [sizeLine_eq] at z; exact z
        refine (mt_popAt) pins s σ H _ _ v us Q I rx rz ⟨a, vs, i, j, w, rfl, rfl, ha, by omega, by omega, h3, h4, ?_⟩
        have ej : j = (if i < 0 then (i + xs.length).toNat else i.toNat) := by
          have hh := h1
          unfold L2.atI at hh
          cases g2 : ixN vs.length i with
          | none => rw [g2] at hh; cases hh
          | some k =>
            have e3 := (ixN_seq g2).1
            rw [h3] at e3; cases e3
            unfold ixN at g2
            by_cases hi : 0 ≤ i
            · rw [if_pos hi, if_pos h7] at g2
              cases g2
              rw [if_neg (by omega)]
            · rw [if_neg hi, if_pos h6] at g2
              cases g2
              rw [if_pos (by omega), r.length]
        rw [ej]
        exact q _ _ h2 (r.erase _)
    | [], e => cases e
    | [.none], e | [.bool _], e | [.str _], e | [.list _], e | [.tuple _], e | [.dict _], e => cases e
    | d0 :: _ :: _, e => cases d0 <;> cases e
  | extend =>
    match ds, e, c with
    | [.list ys], e, c =>
      obtain ⟨w, rfl, hw⟩ := rd.one_l
      cases hw with
      | lst hb rb =>
        cases e
        exact (mt_extend) pins s σ H _ _ v us Q I rx rz ⟨a, _, vs, _, rfl, rfl, ha, sF _ _ hb, by rw [r.length, rb.length, ← limLine]; exact c, q _ _ .non (r.append rb)⟩
    | [], e, _ => cases e
    | [.none], e, _ | [.bool _], e, _ | [.str _], e, _ | [.int _], e, _ | [.tuple _], e, _ | [.dict _], e, _ => cases e
    | d0 :: _ :: _, e, _ => cases d0 <;> cases e
  | insert => cases e
  | reverse =>
    match ds, e with
    | [], e =>
      cases rd.nil_l
      cases e
      exact (mt_reverse) pins s σ H _ _ v us Q I rx rz ⟨a, vs, rfl, rfl, ha, q _ _ .non r.reverse⟩
    | _ :: _, e => cases e
/-! ### built-in functions of data -/
def biIn : BI → Value
  | .len => .builtin "len" | .abs => .builtin "abs" | .int1 => .type "int" | .tup1 => .type "tuple" | .lst1 => .type "list" | .sorted => .builtin "sorted" | .sum => .builtin "sum"
  | .min1 => .builtin "min" | .max1 => .builtin "max" | .min2 => .builtin "min" | .max2 => .builtin "max" | .gcd => .builtin "math.gcd" | .lcm => .builtin "math.lcm"
  | .isi _ => .none | .rngT => .none | .rngL => .none | .str1 => .type "str" | .sset => .none
def rBi (b : BI) : List V → Hp → VK → Prop := fun xs H Q => ∃ F ds r, Same F H ∧ Rds F H xs ds ∧ biD b ds = some r ∧ biC b ds ∧ ∀ v F' H', Grow F H F' H' → RN H F' H' v r → Q v H'
theorem Rds.one {F H : Hp} {xs : List V} {d : D} (h : Rds F H xs [d]) : ∃ x, xs = [x] ∧ Rd F H x d := by
  cases h with | cons h t => cases t; exact ⟨_, rfl, h⟩
theorem Rds.two {F H : Hp} {xs : List V} {d e : D} (h : Rds F H xs [d, e]) : ∃ x y, xs = [x, y] ∧ Rd F H x d ∧ Rd F H y e := by
  cases h with | cons h t => cases t with | cons h2 t => cases t; exact ⟨_, _, rfl, h, h2⟩

theorem maxI_ge : ∀ (ns : List Int), ∀ y ∈ ns, y ≤ maxI ns
  | [], _, h => by simp at h
  | [x], y, h => by simp at h; subst h; exact Int.le_refl _
  | x :: z :: r, y, h => by
    show y ≤ max x (maxI (z :: r))
    rcases List.mem_cons.mp h with e | h
    · subst e; omega
    · have := maxI_ge (z :: r) y h; omega
theorem maxI_mem : ∀ (ns : List Int), 0 < ns.length → maxI ns ∈ ns
  | [], h => by simp at h
  | [x], _ => by simp [maxI]
  | x :: z :: r, _ => by
    have := maxI_mem (z :: r) (by simp)
    show max x (maxI (z :: r)) ∈ _
    by_cases c : x ≤ maxI (z :: r)
    · rw [Int.max_eq_right c]; exact List.mem_cons_of_mem _ this
    · rw [Int.max_eq_left (by omega)]; exact List.mem_cons_self
theorem minI_le : ∀ (ns : List Int), ∀ y ∈ ns, minI ns ≤ y
  | [], _, h => by simp at h
  | [x], y, h => by simp at h; subst h; exact Int.le_refl _
  | x :: z :: r, y, h => by
    show min x (minI (z :: r)) ≤ y
    rcases List.mem_cons.mp h with e | h
    · subst e; omega
    · have := minI_le (z :: r) y h; omega
theorem minI_mem : ∀ (ns : List Int), 0 < ns.length → minI ns ∈ ns
  | [], h => by simp at h
  | [x], _ => by simp [minI]
  | x :: z :: r, _ => by
    have := minI_mem (z :: r) (by simp)
    show min x (minI (z :: r)) ∈ _
    by_cases c : x ≤ minI (z :: r)
    · rw [Int.min_eq_left c]; exact List.mem_cons_self
    · rw [Int.min_eq_right (by omega)]; exact List.mem_cons_of_mem _ this
theorem sortI_uniq {ns ms : List Int} (p : ms.Perm ns) (o : ms.Pairwise (· ≤ ·)) : ms = sortI ns := by
  have h1 : (sortI ns).Pairwise (fun a b => decide (a ≤ b) = true) := List.pairwise_mergeSort (fun a b c h h' => by simp at *; omega) (fun a b => by simp; omega) ns
  have h2 : (sortI ns).Perm ns := List.mergeSort_perm ns _
  refine List.Perm.eq_of_pairwise (le := fun a b => a ≤ b) (fun a b _ _ x y => by omega) o (h1.imp fun h => by simpa using h) (p.trans h2.symm)
theorem intsD_length : ∀ {xs : List D} {ns : List Int}, intsD xs = some ns → ns.length = xs.length
  | [], _, e => by simp [intsD] at e; subst e; rfl
  | x :: xs, ns, e => by
    cases x with
    | int i =>
      simp only [intsD] at e
      cases q : intsD xs with
      | none => rw [q] at e; cases e
      | some is => rw [q] at e; cases e; simp [intsD_length q]
    | _ => simp [intsD] at e
/-- the built-ins that are served -/
def biOk : BI → Bool
  | .len => true | .abs => true | .int1 => true | .tup1 => true | .lst1 => true | .sorted => true | .sum => true | .min1 => true | .max1 => true | .min2 => true | .max2 => true | .gcd => true | .lcm => true | .str1 => true
  | _ => false
theorem bi_one_list {b : BI} (hb : b = .sum ∨ b = .max1 ∨ b = .min1) {ds : List D} {r : U} (e : biD b ds = some r) (c : biC b ds) : ∃ ys, ds = [.list ys] ∨ (ds = [.tuple ys] ∧ b ≠ .sorted) := by
  match ds, e, c with
  | [], e, _ => rcases hb with rfl | rfl | rfl <;> cases e
  | [x], e, c =>
    cases x with
    | list ys => exact ⟨ys, .inl rfl⟩
    | tuple ys =>
      rcases hb with rfl | rfl | rfl
      · exact ⟨ys, .inr ⟨rfl, by decide⟩⟩
      · exact ⟨ys, .inr ⟨rfl, by decide⟩⟩
      · exact ⟨ys, .inr ⟨rfl, by decide⟩⟩
    | _ => rcases hb with rfl | rfl | rfl <;> (simp only [biD, seqD] at e; cases e)
  | x :: y :: z, e, _ => rcases hb with rfl | rfl | rfl <;> cases x <;> cases e
theorem bi_sorted_seq {ds : List D} {r : U} (e : biD .sorted ds = some r) : ∃ ys, ds = [.list ys] ∨ ds = [.tuple ys] := by
  match ds, e with
  | [], e => cases e
  | [x], e =>
    cases x with
    | list ys => exact ⟨ys, .inl rfl⟩
    | tuple ys => exact ⟨ys, .inr rfl⟩
    | _ => simp only [biD, seqD] at e; cases e
  | x :: y :: z, e => cases x <;> cases e
/-! rows, sorted -/
theorem leL_lt : ∀ a b : List Int, leL a b = !decide (b < a)
  | [], b => by simp [leL]
  | x :: xs, [] => by simp [leL]
  | x :: xs, y :: ys => by
    rw [leL, leL_lt xs ys]
    by_cases e : x = y
    · subst e; simp [List.cons_lt_cons_iff]
    · rw [if_neg e]
      have e2 : ¬ y = x := fun z => e z.symm
      by_cases h : x < y
      · have : ¬ y < x := by omega
        simp [List.cons_lt_cons_iff, e2, h, this]
      · have : y < x := by omega
        simp [List.cons_lt_cons_iff, e2, h, this]
theorem leL_total : ∀ a b : List Int, leL a b = true ∨ leL b a = true
  | [], _ => .inl rfl
  | _ :: _, [] => .inr rfl
  | x :: xs, y :: ys => by
    unfold leL
    by_cases e : x = y
    · subst e; rw [if_pos rfl, if_pos rfl]; exact leL_total xs ys
    · rw [if_neg e, if_neg fun z => e z.symm]
      by_cases h : x < y
      · exact .inl (by simpa using h)
      · exact .inr (by simp; omega)
theorem leL_trans : ∀ a b c : List Int, leL a b = true → leL b c = true → leL a c = true
  | [], _, _, _, _ => rfl
  | _ :: _, [], _, h, _ => by cases h
  | _ :: _, _ :: _, [], _, h => by cases h
  | x :: xs, y :: ys, z :: zs, h, h' => by
    unfold leL at h h' ⊢
    by_cases e : x = y
    · subst e
      rw [if_pos rfl] at h
      by_cases e2 : x = z
      · subst e2; rw [if_pos rfl] at h' ⊢; exact leL_trans xs ys zs h h'
      · rw [if_neg e2] at h' ⊢; exact h'
    · rw [if_neg e] at h
      have h1 : x < y := by simpa using h
      by_cases e2 : y = z
      · subst e2; rw [if_neg e]; exact h
      · rw [if_neg e2] at h'
        have h2 : y < z := by simpa using h'
        rw [if_neg (by omega)]; simp; omega
theorem leL_antisymm : ∀ a b : List Int, leL a b = true → leL b a = true → a = b
  | [], [], _, _ => rfl
  | [], _ :: _, _, h => by cases h
  | _ :: _, [], h, _ => by cases h
  | x :: xs, y :: ys, h, h' => by
    unfold leL at h h'
    by_cases e : x = y
    · subst e
      rw [if_pos rfl] at h h'
      rw [leL_antisymm xs ys h h']
    · rw [if_neg e] at h
      rw [if_neg fun z => e z.symm] at h'
      have h1 : x < y := by simpa using h
      have h2 : y < x := by simpa using h'
      omega
theorem insT_perm (x : List Int) : ∀ ys, (insT x ys).Perm (x :: ys)
  | [] => List.Perm.refl _
  | y :: ys => by
    unfold insT
    split
    · exact List.Perm.refl _
    · exact ((insT_perm x ys).cons y).trans (List.Perm.swap x y ys)
theorem sortT_perm : ∀ xs, (sortT xs).Perm xs
  | [] => List.Perm.refl _
  | x :: xs => (insT_perm x _).trans ((sortT_perm xs).cons x)
theorem insT_sorted (x : List Int) : ∀ {ys}, ys.Pairwise (fun a b => leL a b = true) → (insT x ys).Pairwise (fun a b => leL a b = true)
  | [], _ => List.pairwise_singleton _ _
  | y :: ys, h => by
    unfold insT
    have ⟨h1, h2⟩ := List.pairwise_cons.mp h
    split
    · rename_i c
      exact List.pairwise_cons.mpr ⟨fun z hz => by
        rcases List.mem_cons.mp hz with e | hz
        · subst e; exact c
        · exact leL_trans _ _ _ c (h1 z hz), h⟩
    · rename_i c
      refine List.pairwise_cons.mpr ⟨fun z hz => ?_, insT_sorted x h2⟩
      rcases List.mem_cons.mp ((insT_perm x ys).mem_iff.mp hz) with e | hz
      · subst e
        rcases leL_total y z with q | q
        · exact q
        · exact absurd q c
      · exact h1 z hz
theorem sortT_sorted : ∀ xs, (sortT xs).Pairwise (fun a b => leL a b = true)
  | [] => List.Pairwise.nil
  | x :: xs => insT_sorted x (sortT_sorted xs)
theorem sortT_uniq {ns ms : List (List Int)} (p : ms.Perm ns) (o : ms.Pairwise (fun a b => leL a b = true)) : ms = sortT ns :=
  List.Perm.eq_of_pairwise (le := fun a b => leL a b = true) (fun a b _ _ x y => leL_antisymm a b x y) o (sortT_sorted ns) (p.trans (sortT_perm ns).symm)
theorem dataLe_tups : PySem.W.dataLe false tupI = leL := by
  funext a b
  rw [PySem.W.dataLe_eq]
  show (!PySem.W.dataLt (tupI b) (tupI a)) = _
  unfold tupI
  rw [PySem.W.dataLt_tuple]
  show (!PySem.W.rowLt (b.map .int) (a.map .int)) = _
  rw [PySem.W.dataLt_ints, leL_lt]
theorem mergeSort_tups (ns : List (List Int)) : ns.mergeSort (PySem.W.dataLe false tupI) = sortT ns := by
  rw [dataLe_tups]
  exact sortT_uniq (List.mergeSort_perm ns _) (List.pairwise_mergeSort (fun a b c h h' => leL_trans a b c h h') (fun a b => by simpa using leL_total a b) ns)
theorem mergeSort_ints (ns : List Int) : ns.mergeSort (PySem.W.dataLe false PyData.int) = sortI ns := by
  have e := PySem.W.dataLe_int (β := Int) fun i => i
  show ns.mergeSort (PySem.W.dataLe false fun b => PyData.int b) = _
  rw [e]; rfl
theorem intsD_map : ∀ {xs : List D} {ns : List Int}, intsD xs = some ns → xs = ns.map .int
  | [], _, e => by simp [intsD] at e; subst e; rfl
  | x :: xs, ns, e => by
    cases x with
    | int i =>
      simp only [intsD] at e
      cases q : intsD xs with
      | none => rw [q] at e; cases e
      | some is => rw [q] at e; cases e; rw [intsD_map q]; rfl
    | _ => simp [intsD] at e
theorem tupsD_map : ∀ {xs : List D} {ns : List (List Int)}, tupsD xs = some ns → xs = ns.map tupI
  | [], _, e => by simp [tupsD] at e; subst e; rfl
  | x :: xs, ns, e => by
    cases x with
    | tuple y =>
      simp only [tupsD] at e
      cases q1 : intsD y with
      | none => rw [q1] at e; cases e
      | some m =>
        rw [q1] at e
        simp only at e
        cases q : tupsD xs with
        | none => rw [q] at e; cases e
        | some is => rw [q] at e; cases e; rw [tupsD_map q, intsD_map q1]; rfl
    | _ => simp [tupsD] at e
theorem Reps.each {β : Type} {F : Hp} {enc : β → D} : ∀ {vs : List V} {bs : List β}, Reps F vs (bs.map enc) → PySem.W.EachIs (fun v b => Rep F v (enc b)) vs bs
  | _, [], h => by cases h; exact .nil
  | _, b :: bs, h => by cases h with | cons a t => exact .cons a (Reps.each t)
theorem Reps.ofEach {β : Type} {F : Hp} {enc : β → D} : ∀ {vs : List V} {bs : List β}, PySem.W.EachIs (fun v b => Rep F v (enc b)) vs bs → Reps F vs (bs.map enc)
  | _, _, .nil => .nil
  | _, _, .cons a t => .cons a (Reps.ofEach t)
theorem lay_tup (ns : List Int) : PyData.canLay0 (tupI ns) = true := by
  unfold tupI
  simp only [PyData.canLay0]
  induction ns with
  | nil => rfl
  | cons n ns ih => simp [PyData.canLayAll0, PyData.canLay0, ih]
theorem rSort_of {K : PySem.W.Frag} {β : Type} {enc : β → D} (hlay : ∀ b, PyData.canLay0 (enc b) = true) {bs : List β} {F H : Hp} {a : Addr} {vs : List V} {Q : VK} (hs : SqL K H a vs ∨ SqT K H a vs) (ra : Reps F vs (bs.map enc)) (sF : Same F H)
    (q : ∀ p ys, Reps F ys ((bs.mergeSort (PySem.W.dataLe false enc)).map enc) → H p = none → Q (.ref p) (upd H p (.lst ys))) : rSortX K enc (fun v b => Rep F v (enc b)) [V.ref a] H Q :=
  ⟨a, vs, bs, rfl, hs, ra.each, fun v b p => p.dp sF (hlay b), fun ys p ey hp => q p ys (Reps.ofEach ey) hp⟩
theorem sort_one (hu : X.A.units + 65 < cLine) {F : Hp} {pins : List (Addr × Obj)} {s : Shared} {σ : L2.St} {H : Hp} {a : Addr} {us : List Value} {Q : VK} (I : Inv X pins σ H s) (r : Vals [V.ref a] us) {vs : List V} {ys : List D} {d : D} {res : U}
    (hs : SqL X.K H a vs ∨ SqT X.K H a vs) (ra : Reps F vs ys) (sF : Same F H) (ed : seqD d = some ys) (e : biD .sorted [d] = some res) (q : ∀ v F' H', Grow F H F' H' → RN H F' H' v res → Q v H') :
    wpAny (model X.prog X.w) X.A (call (.builtin "sorted") us) (fun v s1 => ∃ x H1, Inv X pins σ H1 s1 ∧ RelV x v ∧ Q x H1) X.xe s := by
  simp only [biD, ed] at e
  cases g : intsD ys with
  | some ns =>
    rw [g] at e; cases e
    cases intsD_map g
    refine cr_sortX (enc := PyData.int) (P := fun v b => Rep F v (.int b)) (fun _ _ => rfl) (fun A s vs bs hu e => PySem.W.SortsAt.ints e hu) hu pins s σ H _ us Q I r (rSort_of (fun _ => rfl) hs ra sF fun p zs rz hp => ?_)
    rw [mergeSort_ints] at rz
    exact q _ _ _ (Grow.own sF hp) ⟨p, _, rfl, hp, upd_same, noneF sF hp, rz⟩
  | none =>
    rw [g] at e
    simp only at e
    cases g2 : tupsD ys with
    | none => rw [g2] at e; cases e
    | some ts =>
      rw [g2] at e; cases e
      cases tupsD_map g2
      refine cr_sortX (enc := tupI) (P := fun v b => Rep F v (tupI b)) (fun b b' => by show PySem.W.alikeAll _ _ = true; exact PySem.W.alike_ints b b') (fun A s vs bs hu e => PySem.W.SortsAt.tups e hu) hu pins s σ H _ us Q I r (rSort_of lay_tup hs ra sF fun p zs rz hp => ?_)
      rw [mergeSort_tups] at rz
      exact q _ _ _ (Grow.own sF hp) ⟨p, _, rfl, hp, upd_same, noneF sF hp, rz⟩
theorem call_bi (b : BI) (ok : biOk b = true) (hc : X.calm = true) (hu : X.A.units + 65 < cLine) : CallR X (biIn b) (rBi b) := by
  intro pins s σ H xs us Q I r h
  obtain ⟨F, ds, res, sF, hd, e, c, q⟩ := h
  match b, ds, e, c, hd, ok with
  | .len, [.list ys], e, _, hd, _ =>
    obtain ⟨x, rfl, h1⟩ := hd.one
    obtain ⟨a, vs, rfl, ha, ra⟩ := h1.lst sF
    cases e
    exact call_len_seq pins s σ H _ us Q I r ⟨a, vs, rfl, .inl (SqL.of ha), q _ F H (.refl sF) (by rw [ra.length]; exact .int _)⟩
  | .len, [.tuple ys], e, _, hd, _ =>
    obtain ⟨x, rfl, h1⟩ := hd.one
    obtain ⟨a, vs, rfl, ha, fa, ra⟩ := h1.tup sF
    cases e
    exact call_len_seq pins s σ H _ us Q I r ⟨a, vs, rfl, .inr (SqT.of ha), q _ F H (.refl sF) (by rw [ra.length]; exact .int _)⟩
  | .len, [.str y], e, c, hd, _ =>
    obtain ⟨x, rfl, h1⟩ := hd.one
    cases h1.str
    cases e
    exact call_len_str pins s σ H _ us Q I r ⟨_, rfl, by rw [← limLine]; exact c, q _ F H (.refl sF) (.int _)⟩
  | .abs, [.int i], e, _, hd, _ =>
    obtain ⟨x, rfl, h1⟩ := hd.one
    cases h1.int
    cases e
    exact call_abs pins s σ H _ us Q I r ⟨_, rfl, q _ F H (.refl sF) (.int _)⟩
  | .int1, [.int i], e, _, hd, _ =>
    obtain ⟨x, rfl, h1⟩ := hd.one
    cases h1.int
    cases e
    exact call_int1 pins s σ H _ us Q I r (.inl ⟨_, rfl, q _ F H (.refl sF) (.int _)⟩)
  | .int1, [.bool i], e, _, hd, _ =>
    obtain ⟨x, rfl, h1⟩ := hd.one
    cases h1.bl
    cases e
    exact call_int1 pins s σ H _ us Q I r (.inr ⟨_, rfl, q _ F H (.refl sF) (.int _)⟩)
  | .tup1, [.list ys], e, _, hd, _ =>
    obtain ⟨x, rfl, h1⟩ := hd.one
    obtain ⟨a, vs, rfl, ha, ra⟩ := h1.lst sF
    cases e
    exact call_tuple_of pins s σ H _ us Q I r ⟨a, vs, rfl, .inl ⟨SqL.of ha, fun p hp => q _ _ _ (Grow.froz sF hp) (.tup upd_same (ra.mono (same_upd (noneF sF hp))))⟩⟩
  | .tup1, [.tuple ys], e, _, hd, _ =>
    obtain ⟨x, rfl, h1⟩ := hd.one
    obtain ⟨a, vs, rfl, ha, fa, ra⟩ := h1.tup sF
    cases e
    exact call_tuple_of pins s σ H _ us Q I r ⟨a, vs, rfl, .inr ⟨SqT.of ha, q _ F H (.refl sF) (.tup fa ra)⟩⟩
  | .lst1, [.list ys], e, _, hd, _ =>
    obtain ⟨x, rfl, h1⟩ := hd.one
    obtain ⟨a, vs, rfl, ha, ra⟩ := h1.lst sF
    cases e
    exact call_list_of pins s σ H _ us Q I r ⟨a, vs, rfl, .inl (SqL.of ha), fun p hp => q _ _ _ (Grow.own sF hp) ⟨p, _, rfl, hp, upd_same, noneF sF hp, ra⟩⟩
  | .lst1, [.tuple ys], e, _, hd, _ =>
    obtain ⟨x, rfl, h1⟩ := hd.one
    obtain ⟨a, vs, rfl, ha, fa, ra⟩ := h1.tup sF
    cases e
    exact call_list_of pins s σ H _ us Q I r ⟨a, vs, rfl, .inr (SqT.of ha), fun p hp => q _ _ _ (Grow.own sF hp) ⟨p, _, rfl, hp, upd_same, noneF sF hp, ra⟩⟩
  | .sorted, ds, e, c, hd, _ =>
    obtain ⟨ys, rfl | rfl⟩ := bi_sorted_seq e
    · obtain ⟨x, rfl, h1⟩ := hd.one
      obtain ⟨a, vs, rfl, ha, ra⟩ := h1.lst sF
      exact sort_one hu I r (.inl (SqL.of ha)) ra sF rfl e q
    · obtain ⟨x, rfl, h1⟩ := hd.one
      obtain ⟨a, vs, rfl, ha, fa, ra⟩ := h1.tup sF
      exact sort_one hu I r (.inr (SqT.of ha)) ra sF rfl e q
  | .sum, ds, e, c, hd, _ =>
    obtain ⟨ys, rfl | ⟨rfl, hns⟩⟩ := bi_one_list (by simp) e c
    · obtain ⟨x, rfl, h1⟩ := hd.one
      obtain ⟨a, vs, rfl, ha, ra⟩ := h1.lst sF
      simp only [biD, seqD] at e
      cases g : intsD ys with
      | none => rw [g] at e; cases e
      | some ns =>
        rw [g] at e; cases e
        have := ra.ints g
        subst this
        exact cr_sum hc pins s σ H _ us Q I r ⟨a, ns, rfl, SqL.of ha, q _ F H (.refl sF) (.int _)⟩
    · obtain ⟨x, rfl, h1⟩ := hd.one
      obtain ⟨a, vs, rfl, ha, fa, ra⟩ := h1.tup sF
      simp only [biD, seqD] at e
      cases g : intsD ys with
      | none => rw [g] at e; cases e
      | some ns =>
        rw [g] at e; cases e
        have := ra.ints g
        subst this
        exact cr_sumT hc pins s σ H _ us Q I r ⟨a, ns, rfl, SqT.of ha, q _ F H (.refl sF) (.int _)⟩
  | .max1, ds, e, c, hd, _ =>
    obtain ⟨ys, rfl | ⟨rfl, hns⟩⟩ := bi_one_list (by simp) e c
    · obtain ⟨x, rfl, h1⟩ := hd.one
      obtain ⟨a, vs, rfl, ha, ra⟩ := h1.lst sF
      simp only [biD, seqD] at e
      cases g : intsD ys with
      | none => rw [g] at e; cases e
      | some ns =>
        rw [g] at e; cases e
        have := ra.ints g
        subst this
        have c' : 0 < ns.length := by rw [intsD_length g]; exact c
        refine cr_max hc pins s σ H _ us Q I r ⟨a, ns, rfl, SqL.of ha, c', fun m hm hg => ?_⟩
        have em : m = maxI ns := Int.le_antisymm (maxI_ge ns m hm) (hg _ (maxI_mem ns c'))
        rw [em]
        exact q _ F H (.refl sF) (.int _)
    · obtain ⟨x, rfl, h1⟩ := hd.one
      obtain ⟨a, vs, rfl, ha, fa, ra⟩ := h1.tup sF
      simp only [biD, seqD] at e
      cases g : intsD ys with
      | none => rw [g] at e; cases e
      | some ns =>
        rw [g] at e; cases e
        have := ra.ints g
        subst this
        have c' : 0 < ns.length := by rw [intsD_length g]; exact c
        refine cr_maxT hc pins s σ H _ us Q I r ⟨a, ns, rfl, SqT.of ha, c', fun m hm hg => ?_⟩
        have em : m = maxI ns := Int.le_antisymm (maxI_ge ns m hm) (hg _ (maxI_mem ns c'))
        rw [em]
        exact q _ F H (.refl sF) (.int _)
  | .min1, ds, e, c, hd, _ =>
    obtain ⟨ys, rfl | ⟨rfl, hns⟩⟩ := bi_one_list (by simp) e c
    · obtain ⟨x, rfl, h1⟩ := hd.one
      obtain ⟨a, vs, rfl, ha, ra⟩ := h1.lst sF
      simp only [biD, seqD] at e
      cases g : intsD ys with
      | none => rw [g] at e; cases e
      | some ns =>
        rw [g] at e; cases e
        have := ra.ints g
        subst this
        have c' : 0 < ns.length := by rw [intsD_length g]; exact c
        refine cr_min hc pins s σ H _ us Q I r ⟨a, ns, rfl, SqL.of ha, c', fun m hm hg => ?_⟩
        have em : m = minI ns := Int.le_antisymm (hg _ (minI_mem ns c')) (minI_le ns m hm)
        rw [em]
        exact q _ F H (.refl sF) (.int _)
    · obtain ⟨x, rfl, h1⟩ := hd.one
      obtain ⟨a, vs, rfl, ha, fa, ra⟩ := h1.tup sF
      simp only [biD, seqD] at e
      cases g : intsD ys with
      | none => rw [g] at e; cases e
      | some ns =>
        rw [g] at e; cases e
        have := ra.ints g
        subst this
        have c' : 0 < ns.length := by rw [intsD_length g]; exact c
        refine cr_minT hc pins s σ H _ us Q I r ⟨a, ns, rfl, SqT.of ha, c', fun m hm hg => ?_⟩
        have em : m = minI ns := Int.le_antisymm (hg _ (minI_mem ns c')) (minI_le ns m hm)
        rw [em]
        exact q _ F H (.refl sF) (.int _)
  | .max2, [.int i, .int j], e, _, hd, _ =>
    obtain ⟨x, y, rfl, h1, h2⟩ := hd.two
    cases h1.int
    cases h2.int
    cases e
    exact call_max2 hc pins s σ H _ us Q I r ⟨_, _, rfl, q _ F H (.refl sF) (.int _)⟩
  | .min2, [.int i, .int j], e, _, hd, _ =>
    obtain ⟨x, y, rfl, h1, h2⟩ := hd.two
    cases h1.int
    cases h2.int
    cases e
    exact call_min2 hc pins s σ H _ us Q I r ⟨_, _, rfl, q _ F H (.refl sF) (.int _)⟩
  | .lcm, [.int i, .int j], e, c, hd, _ =>
    obtain ⟨x, y, rfl, h1, h2⟩ := hd.two
    cases h1.int
    cases h2.int
    cases e
    exact cr_lcm pins s σ H _ us Q I r ⟨_, _, rfl, c.1, c.2, q _ F H (.refl sF) (.int _)⟩
  | .str1, [.int i], e, c, hd, _ =>
    obtain ⟨x, rfl, h1⟩ := hd.one
    cases h1.int
    cases e
    exact call_str_int pins s σ H _ us Q I r ⟨_, rfl, c, q _ F H (.refl sF) (.str _)⟩
  | .gcd, [.int i, .int j], e, _, hd, _ =>
    obtain ⟨x, y, rfl, h1, h2⟩ := hd.two
    cases h1.int
    cases h2.int
    cases e
    exact cr_gcd pins s σ H _ us Q I r ⟨_, _, rfl, q _ F H (.refl sF) (.int _)⟩
end
end GM

set_option maxRecDepth 100000
/-! GM: the text against the small language (chk); expressions keep what wpE says -/
namespace GM
open PySem PySem.Spec PyProof.Rows L2

/-! ### mono -/
theorem optP_mono {α : Type} {o : Option α} {Q Q' : α → Prop} (h : optP o Q) (f : ∀ a, Q a → Q' a) : optP o Q' := by
  obtain ⟨a, e, q⟩ := optP_get h; exact optP_of e (f a q)
theorem brP_mono {b : Bool} {P P' Q Q' : Prop} (h : brP b P Q) (f : P → P') (g : Q → Q') : brP b P' Q' := by
  obtain ⟨h1, h2⟩ := brP_get h; exact brP_of (fun e => f (h1 e)) fun e => g (h2 e)
theorem envP_mono {e : Env} {Q Q' : Env → Prop} (h : envP e Q) (f : ∀ e, Q e → Q' e) : envP e Q' := envP_of rfl (f _ (envP_get h))
theorem ckP_mono {c Q Q' : Prop} (h : ckP c Q) (f : Q → Q') : ckP c Q' := by
  obtain ⟨h1, h2⟩ := ckP_get h; exact ckP_of h1 (f h2)
theorem callP_mono {o : Option FS} {us : List U} {Qx Qx' : EX → List U → Prop} {Q Q' : U → List U → Prop} (h : callP o us Qx Q) (fx : ∀ x us', Qx x us' → Qx' x us') (f : ∀ r us', Q r us' → Q' r us') : callP o us Qx' Q' := by
  obtain ⟨S, e, a, ea, p, q, qx⟩ := callP_get h
  exact callP_of S e a ea p (fun r us' z => f _ _ (q r us' z)) fun x us' z => fx _ _ (qx x us' z)
/-- a run's mono -/
def MonoE (rec : WE) : Prop := ∀ m env (Qx Qx' : QX) (Q Q' : U → Env → Prop), rec m env Qx Q → (∀ x e, Qx x e → Qx' x e) → (∀ u e, Q u e → Q' u e) → rec m env Qx' Q'
/-- a test's own nodes -/
def isTN : GM.M → Bool
  | .notv _ => true
  | .and_ _ _ => true
  | .or_ _ _ => true
  | _ => false
section
variable {rec : WE} (M : MonoE rec)
include M
theorem wpR_mono {m : GM.M} {env : Env} {Qx Qx' : QX} {Q Q' : Op → Env → Prop} (h : wpR rec m env Qx Q) (fx : ∀ x e, Qx x e → Qx' x e) (f : ∀ o e, Q o e → Q' o e) : wpR rec m env Qx' Q' := by
  unfold wpR at h ⊢
  cases m <;> first
    | exact optP_mono h fun _ q => f _ _ q
    | exact M _ _ _ _ _ _ h fx fun _ _ q => optP_mono q fun _ q => f _ _ q
theorem wpOs_mono {fx : Prop} : ∀ {ms : List GM.M} {env : Env} {Qx Qx' : QX} {Q Q' : List Op → Env → Prop}, wpOs rec ms env Qx Q → (∀ x e, Qx x e → Qx' x e) → (∀ o e, Q o e → Q' o e) → wpOs rec ms env Qx' Q'
  | [], _, _, _, _, _, h, _, f => f _ _ h
  | m :: ms, env, Qx, Qx', Q, Q', h, fx', f => by
    rw [wpOs_cons] at h ⊢
    exact wpR_mono (m := m) M h fx' fun _ _ h1 => wpOs_mono (fx := fx) h1 fx' fun _ _ q => f _ _ q
theorem wpVs_mono : ∀ {ms : List GM.M} {env : Env} {Qx Qx' : QX} {Q Q' : List D → Env → Prop}, wpVs rec ms env Qx Q → (∀ x e, Qx x e → Qx' x e) → (∀ o e, Q o e → Q' o e) → wpVs rec ms env Qx' Q'
  | [], _, _, _, _, _, h, _, f => f _ _ h
  | m :: ms, _, _, _, _, _, h, fx', f => M _ _ _ _ _ _ h fx' fun _ _ h1 => optP_mono h1 fun _ h2 => wpVs_mono h2 fx' fun _ _ q => f _ _ q
theorem wpAs_mono : ∀ {ms : List GM.M} {env : Env} {Qx Qx' : QX} {Q Q' : List Op → Env → Prop}, wpAs rec ms env Qx Q → (∀ x e, Qx x e → Qx' x e) → (∀ o e, Q o e → Q' o e) → wpAs rec ms env Qx' Q'
  | [], _, _, _, _, _, h, _, f => f _ _ h
  | m :: ms, _, _, _, _, _, h, fx', f => by
    cases m <;> first
      | exact optP_mono h fun _ h1 => wpAs_mono h1 fx' fun _ _ q => f _ _ q
      | exact M _ _ _ _ _ _ h fx' fun _ _ h1 => optP_mono h1 fun _ h2 => wpAs_mono h2 fx' fun _ _ q => f _ _ q
theorem wpTl_mono {m : GM.M} {env : Env} {Qx Qx' : QX} {Q Q' : Bool → Env → Prop} (h : wpR rec m env Qx fun o env1 => optP (rdv env1 o) fun d => optP (truD d) fun b => ckP (truC d) (Q b env1)) (fx : ∀ x e, Qx x e → Qx' x e) (f : ∀ o e, Q o e → Q' o e) :
    wpR rec m env Qx' fun o env1 => optP (rdv env1 o) fun d => optP (truD d) fun b => ckP (truC d) (Q' b env1) := wpR_mono M h fx fun _ _ h1 => optP_mono h1 fun _ h2 => optP_mono h2 fun _ h3 => ckP_mono h3 fun h4 => f _ _ h4
omit M in
theorem wpT_leaf {n : Nat} {m : GM.M} {env : Env} {Qx : QX} {Q : Bool → Env → Prop} (hm : isTN m = false) : wpT rec (n + 1) m env Qx Q = wpR rec m env Qx fun o env1 => optP (rdv env1 o) fun d => optP (truD d) fun b => ckP (truC d) (Q b env1) := by
  cases m <;> first | rfl | cases hm
theorem wpT_mono : ∀ {n : Nat} {m : GM.M} {env : Env} {Qx Qx' : QX} {Q Q' : Bool → Env → Prop}, wpT rec n m env Qx Q → (∀ x e, Qx x e → Qx' x e) → (∀ o e, Q o e → Q' o e) → wpT rec n m env Qx' Q'
  | 0, _, _, _, _, _, _, h, _, _ => h
  | n + 1, m, _, _, _, _, _, h, fx, f => by
    by_cases hm : isTN m = false
    · rw [wpT_leaf hm] at h ⊢
      exact wpTl_mono M h fx f
    · cases m with
      | notv a => exact wpT_mono (n := n) (m := a) h fx fun _ _ q => f _ _ q
      | and_ a b => exact wpT_mono (n := n) (m := a) h fx fun _ _ q => brP_mono q (fun q => wpT_mono (n := n) (m := b) q fx f) fun q => f _ _ q
      | or_ a b => exact wpT_mono (n := n) (m := a) h fx fun _ _ q => brP_mono q (fun q => f _ _ q) fun q => wpT_mono (n := n) (m := b) q fx f
      | _ => exact absurd rfl hm
end
theorem bindT_mono : ∀ {n : Nat} {t : T} {d : D} {env : Env} {Q Q' : Env → Prop}, bindT n t d env Q → (∀ e, Q e → Q' e) → bindT n t d env Q'
  | 0, _, _, _, _, _, h, _ => h
  | n + 1, t, d, env, Q, Q', h, f => by
    cases t with
    | nm i => exact ckP_mono h (f _)
    | tp ts =>
      cases d with
      | tuple ds => exact go n h f
      | list ds => exact go n h f
      | _ => exact h
where go (n : Nat) : ∀ {ts : List T} {ds : List D} {env : Env} {Q Q' : Env → Prop}, bindT.go (bindT n) ts ds env Q → (∀ e, Q e → Q' e) → bindT.go (bindT n) ts ds env Q'
  | [], [], _, _, _, h, f => f _ h
  | t :: ts, d :: ds, _, _, _, h, f => bindT_mono (n := n) h fun _ h1 => go n h1 f
  | [], _ :: _, _, _, _, h, _ => h
  | _ :: _, [], _, _, _, h, _ => h
theorem compP_mono {step step' : D → Env → (List D → Env → Prop) → Prop} (fs : ∀ x e (n n' : List D → Env → Prop), step x e n → (∀ d e, n d e → n' d e) → step' x e n') :
    ∀ {xs : List D} {env : Env} {acc : List D} {Q Q' : List D → Env → Prop}, compP step xs env acc Q → (∀ d e, Q d e → Q' d e) → compP step' xs env acc Q' := by
  have : ∀ {xs : List D} {env : Env} {acc : List D} {Q Q' : List D → Env → Prop}, compL step xs env acc Q → (∀ d e, Q d e → Q' d e) → compL step' xs env acc Q' := by
    intro xs
    induction xs with
    | nil => intro env acc Q Q' h f; exact f _ _ h
    | cons x xs ih => intro env acc Q Q' h f; exact fs _ _ _ _ h fun d e q => ih q f
  intro xs env acc Q Q' h f
  unfold compP at h ⊢
  exact this h f
theorem wpTs_mono {tst : GM.M → Env → QX → (Bool → Env → Prop) → Prop} (ht : ∀ m env (Qx Qx' : QX) (Q Q' : Bool → Env → Prop), tst m env Qx Q → (∀ x e, Qx x e → Qx' x e) → (∀ o e, Q o e → Q' o e) → tst m env Qx' Q')
    {ms : List GM.M} {env : Env} {Qx Qx' : QX} {Q Q' : Bool → Env → Prop} (h : wpTs tst ms env Qx Q) (fx : ∀ x e, Qx x e → Qx' x e) (f : ∀ o e, Q o e → Q' o e) : wpTs tst ms env Qx' Q' := by
  cases ms with
  | nil => exact f _ _ h
  | cons c r => exact ht _ _ _ _ _ _ h fx f
theorem wpI_mono {rec : WE} (M : MonoE rec) {m : GM.M} {env : Env} {Qx Qx' : QX} {Q Q' : List D → Env → Prop} (h : wpI rec m env Qx Q) (fx : ∀ x e, Qx x e → Qx' x e) (f : ∀ o e, Q o e → Q' o e) : wpI rec m env Qx' Q' := by
  cases m with
  | irng as =>
    refine wpOs_mono M (fx := True) h fx fun os e h1 => optP_mono h1 fun ds h2 => ?_
    split at h2
    · exact ckP_mono h2 (f _ _)
    · exact ckP_mono h2 (f _ _)
    · exact ckP_mono h2 (f _ _)
    · exact h2.elim
  | ienum a => exact M _ _ _ _ _ _ h fx fun _ _ h1 => optP_mono h1 fun _ h2 => f _ _ h2
  | izip a b => exact M _ _ _ _ _ _ h fx fun _ _ h1 => optP_mono h1 fun _ h1 => optP_mono h1 fun _ h2 => M _ _ _ _ _ _ h2 fx fun _ _ h3 => optP_mono h3 fun _ h3 => optP_mono h3 fun _ h4 => ckP_mono h4 (f _ _)
  | irev a => exact M _ _ _ _ _ _ h fx fun _ _ h1 => optP_mono h1 fun _ h2 => f _ _ h2
  | _ => exact M _ _ _ _ _ _ h fx fun _ _ h1 => optP_mono h1 fun _ h2 => f _ _ h2
theorem wpP_mono {rec : WE} (M : MonoE rec) {o : Option GM.M} {env : Env} {Qx Qx' : QX} {Q Q' : Option Int → Env → Prop} (h : wpE.wpP rec o env Qx Q) (fx : ∀ x e, Qx x e → Qx' x e) (f : ∀ o e, Q o e → Q' o e) : wpE.wpP rec o env Qx' Q' := by
  unfold wpE.wpP at h ⊢
  cases o with
  | none => exact f _ _ h
  | some m => exact wpR_mono (m := m) M h fx fun _ _ h1 => optP_mono h1 fun _ h2 => optP_mono h2 fun _ h3 => f _ _ h3
theorem wpSl_mono {rec : WE} (M : MonoE rec) {a : GM.M} {lo hi : Option GM.M} {env : Env} {Qx Qx' : QX} {Q Q' : U → Env → Prop} (h : wpE.wpSl rec a lo hi env Qx Q) (fx : ∀ x e, Qx x e → Qx' x e) (f : ∀ o e, Q o e → Q' o e) : wpE.wpSl rec a lo hi env Qx' Q' := by
  unfold wpE.wpSl at h ⊢
  exact wpR_mono (m := a) M h fx fun _ _ h1 => wpP_mono (o := lo) M h1 fx fun _ _ h2 => wpP_mono (o := hi) M h2 fx fun _ _ h3 => optP_mono h3 fun _ h4 => optP_mono h4 fun _ h5 => f _ _ h5
theorem wpE_mono (Γ : Nat → Option FS) : ∀ n, MonoE (wpE Γ n)
  | 0 => fun _ _ _ _ _ _ h _ _ => h
  | n + 1 => by
    have M := wpE_mono Γ n
    intro m env Qx Qx' Q Q' h fx f
    have MT : ∀ (m : GM.M) (env : Env) (Qx Qx' : QX) (Q Q' : Bool → Env → Prop), wpT (wpE Γ n) n m env Qx Q → (∀ x e, Qx x e → Qx' x e) → (∀ o e, Q o e → Q' o e) → wpT (wpE Γ n) n m env Qx' Q' := fun _ _ _ _ _ _ h fx f => wpT_mono M h fx f
    rw [wpE_succ] at h ⊢
    unfold wpE1 at h ⊢
    cases m with
    | var i => exact optP_mono h fun _ q => f _ _ q
    | con d => exact f _ _ h
    | refv i => exact h
    | bin op a b => exact wpR_mono (m := a) M h fx fun _ _ h1 => wpR_mono (m := b) M h1 fx fun _ _ h2 => optP_mono h2 fun _ h3 => optP_mono h3 fun _ h4 => optP_mono h4 fun _ h5 => ckP_mono h5 (f _ _)
    | neg a => exact wpR_mono (m := a) M h fx fun _ _ h1 => optP_mono h1 fun _ h2 => optP_mono h2 fun _ h3 => f _ _ h3
    | cmp op a b => exact wpR_mono (m := a) M h fx fun _ _ h1 => wpR_mono (m := b) M h1 fx fun _ _ h2 => optP_mono h2 fun _ h3 => optP_mono h3 fun _ h4 => optP_mono h4 fun _ h5 => ckP_mono h5 (f _ _)
    | chain o1 o2 a b c =>
      exact wpR_mono (m := a) M h fx fun _ _ h1 => wpR_mono (m := b) M h1 fx fun _ _ h2 => optP_mono h2 fun _ h3 => optP_mono h3 fun _ h4 => optP_mono h4 fun _ h5 => ckP_mono h5 fun h6 => brP_mono h6
        (fun h7 => wpR_mono (m := c) M h7 fx fun _ _ h8 => optP_mono h8 fun _ h9 => optP_mono h9 fun _ h10 => optP_mono h10 fun _ h11 => ckP_mono h11 (f _ _)) (f _ _)
    | chain3 o1 o2 o3 a b c d =>
      exact wpR_mono (m := a) M h fx fun _ _ h1 => wpR_mono (m := b) M h1 fx fun _ _ h2 => optP_mono h2 fun _ h3 => optP_mono h3 fun _ h4 => optP_mono h4 fun _ h5 => ckP_mono h5 fun h6 => brP_mono h6
        (fun h7 => wpR_mono (m := c) M h7 fx fun _ _ h8 => optP_mono h8 fun _ h9 => optP_mono h9 fun _ h10 => optP_mono h10 fun _ h11 => ckP_mono h11 fun h12 => brP_mono h12
          (fun h7 => wpR_mono (m := d) M h7 fx fun _ _ h8 => optP_mono h8 fun _ h9 => optP_mono h9 fun _ h10 => optP_mono h10 fun _ h11 => ckP_mono h11 (f _ _)) (f _ _)) (f _ _)
    | and_ a b => exact M _ _ _ _ _ _ h fx fun _ _ h1 => optP_mono h1 fun _ h2 => optP_mono h2 fun _ h3 => ckP_mono h3 fun h4 => brP_mono h4 (fun h5 => M _ _ _ _ _ _ h5 fx f) (f _ _)
    | or_ a b => exact M _ _ _ _ _ _ h fx fun _ _ h1 => optP_mono h1 fun _ h2 => optP_mono h2 fun _ h3 => ckP_mono h3 fun h4 => brP_mono h4 (f _ _) fun h5 => M _ _ _ _ _ _ h5 fx f
    | notv a => exact wpR_mono (m := a) M h fx fun _ _ h1 => optP_mono h1 fun _ h2 => optP_mono h2 fun _ h3 => ckP_mono h3 (f _ _)
    | ife c a b => exact wpT_mono (m := c) M h fx fun _ _ h1 => brP_mono h1 (fun h2 => M _ _ _ _ _ _ h2 fx f) fun h2 => M _ _ _ _ _ _ h2 fx f
    | tup es => exact wpVs_mono (ms := es) M h fx fun _ _ h1 => f _ _ h1
    | lst es => exact wpVs_mono (ms := es) M h fx fun _ _ h1 => f _ _ h1
    | idx a i => exact wpR_mono (m := a) M h fx fun _ _ h1 => wpR_mono (m := i) M h1 fx fun _ _ h2 => optP_mono h2 fun _ h3 => optP_mono h3 fun _ h4 => optP_mono h4 fun _ h5 => f _ _ h5
    | slc a lo hi =>
      have go : ∀ {a : GM.M}, wpE.wpSl (wpE Γ n) a lo hi env Qx Q → wpE.wpSl (wpE Γ n) a lo hi env Qx' Q' := fun h => wpSl_mono M h fx f
      cases a with
      | var i =>
        dsimp only at h ⊢
        split at h
        · split at h
          · exact f _ _ h
          · exact h.elim
        · exact go h
      | _ => exact go h
    | rev a => exact wpR_mono (m := a) M h fx fun _ _ h1 => optP_mono h1 fun _ h2 => optP_mono h2 fun _ h3 => f _ _ h3
    | call g as => exact wpAs_mono (ms := as) M h fx fun _ _ h1 => optP_mono h1 fun _ h2 => ckP_mono h2 fun h3 => callP_mono h3 (fun _ _ q => fx _ _ q) fun _ _ q => envP_mono q (f _)
    | callk g as ks perm => exact wpAs_mono (ms := as) M h fx fun _ _ h1 => wpAs_mono (ms := ks) M h1 fx fun _ _ h2 => optP_mono h2 fun _ h3 => optP_mono h3 fun _ h4 => ckP_mono h4 fun h5 => callP_mono h5 (fun _ _ q => fx _ _ q) fun _ _ q => envP_mono q (f _)
    | bi b as => exact wpOs_mono (ms := as) M (fx := True) h fx fun _ _ h1 => optP_mono h1 fun _ h2 => optP_mono h2 fun _ h3 => ckP_mono h3 (f _ _)
    | mth mn i as => exact optP_mono h fun _ h0 => wpVs_mono (ms := as) M h0 fx fun _ _ h1 => optP_mono h1 fun _ h2 => optP_mono h2 fun _ h3 => ckP_mono h3 (f _ _)
    | mtd md i as => exact optP_mono h fun _ h1 => ckP_mono h1 fun h2 => wpVs_mono (ms := as) M h2 fx fun _ _ h3 => optP_mono h3 fun _ h4 => optP_mono h4 fun _ h5 => f _ _ h5
    | comp el t it ifs own =>
      refine wpI_mono (m := it) M h fx fun ds e1 h1 => ckP_mono h1 fun h2 => compP_mono (fun x e nn nn' hs hn => ?_) h2 fun _ _ q => f _ _ q
      exact bindT_mono hs fun _ h3 => wpTs_mono MT h3 (fun _ _ z => z) fun _ _ h4 => brP_mono h4 (fun h5 => M _ _ _ _ _ _ h5 (fun _ _ z => z) fun _ _ h6 => optP_mono h6 fun _ h7 => hn _ _ h7) fun h5 => hn _ _ h5
    | comp2 el t it ifs t2 it2 ifs2 own =>
      refine wpI_mono (m := it) M h fx fun ds e1 h1 => ckP_mono h1 fun h2 => compP_mono (fun x e nn nn' hs hn => ?_) h2 fun _ _ q => f _ _ q
      refine bindT_mono hs fun _ h3 => wpTs_mono MT h3 (fun _ _ z => z) fun _ _ h4 => brP_mono h4 (fun h5 => wpI_mono (m := it2) M h5 (fun _ _ z => z) fun _ _ h6 => ckP_mono h6 fun h6 => compP_mono (fun x e nn nn' hs hn => ?_) h6 fun _ _ h7 => hn _ _ h7) fun h5 => hn _ _ h5
      exact bindT_mono hs fun _ h3 => wpTs_mono MT h3 (fun _ _ z => z) fun _ _ h4 => brP_mono h4 (fun h5 => M _ _ _ _ _ _ h5 (fun _ _ z => z) fun _ _ h6 => optP_mono h6 fun _ h7 => hn _ _ h7) fun h5 => hn _ _ h5
    | att i k => exact h
    | jar i e => exact optP_mono h fun _ h1 => optP_mono h1 fun _ h2 => M _ _ _ _ _ _ h2 (fun _ _ z => z) fun _ _ h3 => optP_mono h3 fun _ h4 => optP_mono h4 fun _ h5 => f _ _ h5
    | slen i =>
      dsimp only at h ⊢
      cases g : get env i with
      | none => rw [g] at h; exact h.elim
      | some u => cases u <;> rw [g] at h <;> first | exact h.elim | exact f _ _ h
    | sidx i e =>
      dsimp only at h ⊢
      cases g : get env i with
      | none => rw [g] at h; exact h.elim
      | some u => cases u <;> rw [g] at h <;> first | exact h.elim | exact wpR_mono (m := e) M h fx fun _ env1 h1 => optP_mono h1 fun _ h2 => optP_mono h2 fun _ h3 => optP_mono h3 fun _ h4 => ckP_mono h4 (f _ _)
    | irng _ => exact h
    | ienum _ => exact h
    | izip _ _ => exact h
    | irev _ => exact h
end GM

set_option maxRecDepth 100000
/-! GM: chk; expressions keep what wpE says -/
namespace GM
open PySem PySem.Spec PyProof.Rows L2

/-- what is known of the names: the slots, the scope, the names that may be stored, the defs, their parameters -/
structure CC where
  N : List Str
  sc : Scope
  st : Str → Bool
  fns : List Str
  pars : Nat → List Str
  cons : List (Str × Int)
  gcd : Bool
  lcm : Bool := false
  pats : List (Nat × Nat × List Str × List Nat) := []
  excs : List (Nat × Str × List Str) := []
  cats : List (Nat × Str) := []
  top : Bool := false
def visB (sc : Scope) (x : Str) : Bool := match sc.names.lookup x with
  | some .local => true
  | some .cell => true
  | some .free => true
  | _ => false
def glB (sc : Scope) (x : Str) : Bool := decide (sc.names.lookup x = some .globalImplicit)
def nameB (cc : CC) (i : Nat) (x : Str) : Bool := decide (cc.N[i]? = some x) && visB cc.sc x && !(x == ("__debug__" : Str)) && !(x == ("__classdict__" : Str))
def conB : D → Const → Bool
  | .none, .none => true
  | .bool a, .bool b => a == b
  | .int a, .int b => decide (a = b)
  | .str a, .str b => decide (a = b)
  | _, _ => false
def biNm : BI → Str
  | .len => "len" | .abs => "abs" | .int1 => "int" | .tup1 => "tuple" | .lst1 => "list" | .sorted => "sorted" | .sum => "sum" | .min1 => "min" | .max1 => "max" | .min2 => "min" | .max2 => "max" | .gcd => "gcd" | .lcm => "lcm" | .isi _ => "isinstance" | .rngT => "tuple" | .rngL => "list" | .str1 => "str" | .sset => "sorted"
/-- the two names of math -/
def mathOk (cc : CC) : BI → Bool
  | .gcd => cc.gcd
  | .lcm => cc.lcm
  | _ => true
def rngA (rec : M → Expr → Bool) : List M → List Expr → Bool
  | [a], [x] => rec a x
  | [a, b], [x, y] => rec a x && rec b y
  | _, _ => false
def tyNm : Nat → Str
  | 0 => "int" | 1 => "bool" | 2 => "str" | 3 => "tuple" | 4 => "list" | _ => ""
def mnNm : MN → Str
  | .append => "append" | .pop => "pop" | .popAt => "pop" | .extend => "extend" | .insert => "insert" | .reverse => "reverse"
def mdNm : MD → Str
  | .index => "index"
def gloB (cc : CC) (x : Str) : Bool := glB cc.sc x && !(x == ("__debug__" : Str))
/-- a type's name -/
def tyE (cc : CC) (t : Nat) : Expr → Bool
  | .Name x _ => decide (x = tyNm t) && gloB cc x && decide (t < 5)
  | _ => false
def tyEs (cc : CC) : List Nat → List Expr → Bool
  | [], [] => true
  | t :: ts, e :: es => tyE cc t e && tyEs cc ts es
  | _, _ => false
def tyT (cc : CC) (ts : List Nat) : Expr → Bool
  | .Tuple es _ _ => tyEs cc ts es && decide (es.length ≤ LIM)
  | t => tyEs cc ts [t]
def mnAr : MN → List Expr → Bool
  | .pop, es => es.isEmpty
  | .reverse, es => es.isEmpty
  | _, es => !es.isEmpty
def minusOne : Expr → Bool
  | .UnaryOp .USub (.Constant (.int 1) _ _) _ => true
  | _ => false
/-- a node that walks alone, as an operand -/
def chkL (rec : M → Expr → Bool) : List M → List Expr → Bool
  | [], [] => true
  | m :: ms, e :: es => rec m e && chkL rec ms es
  | _, _ => false
def chkO (rec : M → Expr → Bool) : Option M → Option Expr → Bool
  | none, none => true
  | some m, some e => rec m e
  | _, _ => false
/-- what stands behind the first operand of and, or -/
def restB (op : BoolOp) (y : Expr) (es : List Expr) (pos : Pos) : Expr := match es with
  | [] => y
  | e :: es => .BoolOp op (y :: e :: es) pos
def chkA (cc : CC) (rec : M → Expr → Bool) : List M → List Expr → Bool
  | [], [] => true
  | .refv i :: ms, .Name x _ :: es => nameB cc i x && chkA cc rec ms es
  | m :: ms, e :: es => rec m e && chkA cc rec ms es
  | _, _ => false
def isIfE : Expr → Bool
  | .IfExp .. => true
  | _ => false
def notSet : Expr → Bool
  | .Set .. => false
  | _ => true
/-- a test -/
def chkT (rec : M → Expr → Bool) : Nat → M → Expr → Bool
  | 0, _, _ => false
  | k + 1, m, e => match m with
    | .notv a => (match e with | .UnaryOp .Not x _ => chkT rec k a x | _ => false)
    | .and_ a b => (match e with | .BoolOp .And (x :: y :: es) p => chkT rec k a x && chkT rec k b (restB .And y es p) | _ => false)
    | .or_ a b => (match e with | .BoolOp .Or (x :: y :: es) p => chkT rec k a x && chkT rec k b (restB .Or y es p) | _ => false)
    | m => rec m e && !isIfE e
/-- targets -/
def chkG (cc : CC) : Nat → T → Expr → Bool
  | 0, _, _ => false
  | n + 1, t, e => match t with
    | .nm i => (match e with | .Name x _ => decide (cc.N[i]? = some x) && cc.st x | _ => false)
    | .tp ts => (match e with | .Tuple es _ _ => go (chkG cc n) ts es | _ => false)
where go (rec : T → Expr → Bool) : List T → List Expr → Bool
  | [], [] => true
  | t :: ts, e :: es => rec t e && go rec ts es
  | _, _ => false
/-- what is walked -/
def isTupE : Expr → Bool
  | .Tuple .. => true
  | _ => false
def chkI (cc : CC) (rec : M → Expr → Bool) (tg : Expr) (m : M) (e : Expr) : Bool := match m with
  | .irng as => (match e with | .Call (.Name x _) es [] _ => decide (x = "range") && gloB cc x && chkL rec as es && (decide (es.length = 1) || decide (es.length = 2)) | _ => false)
  | .ienum a => (match e with | .Call (.Name x _) [y] [] _ => decide (x = "enumerate") && gloB cc x && rec a y && isTupE tg | _ => false)
  | .izip a b => (match e with | .Call (.Name x _) [y, z] [] _ => decide (x = "zip") && gloB cc x && rec a y && rec b z && isTupE tg | _ => false)
  | .irev a => (match e with | .Call (.Name x _) [y] [] _ => decide (x = "reversed") && gloB cc x && rec a y | _ => false)
  | m => rec m e && notSet e
def ownL (N : List Str) : List Nat → List (Str × Nat)
  | [] => []
  | i :: is => (N.getD i "", i) :: ownL N is
def blkCC (cc : CC) (scope : Scope) : CC := { cc with top := false, sc := relS scope cc.sc, st := fun x => decide ((relS scope cc.sc).names.lookup x = some .local) || (decide ((relS scope cc.sc).names.lookup x = some .cell) && decide (scope.names.lookup x = some .cell)) }
/-- the tests of a clause -/
def chkF (tst : M → Expr → Bool) : List M → List Expr → Bool
  | [], [] => true
  | [c], [d] => tst c d
  | _, _ => false
def chkE : Nat → CC → M → Expr → Bool
  | 0, _, _, _ => false
  | n + 1, cc, m, e => match m with
    | .var i => (match e with | .Name x _ => nameB cc i x | _ => false)
    | .con d => (match e with
      | .Constant c _ _ => conB d c
      | .Name x _ => (match d with | .int i => gloB cc x && decide (cc.cons.lookup x = some i) | _ => false)
      | _ => false)
    | .bin op a b => (match e with | .BinOp l o r _ => decide (o = opOf op) && chkE n cc a l && chkE n cc b r | _ => false)
    | .neg a => (match e with | .UnaryOp .USub x _ => chkE n cc a x | _ => false)
    | .cmp op a b => (match e with | .Compare l [o] [r] _ => decide (o = copOf op) && chkE n cc a l && chkE n cc b r && !behindInMarks o r | _ => false)
    | .chain o1 o2 a b c => (match e with | .Compare l [p1, p2] [r1, r2] _ => decide (p1 = copOf o1) && decide (p2 = copOf o2) && chkE n cc a l && chkE n cc b r1 && chkE n cc c r2 && !lastMarks [p1, p2] [r1, r2] | _ => false)
    | .and_ a b => (match e with | .BoolOp .And (x :: y :: es) p => chkE n cc a x && chkE n cc b (restB .And y es p) | _ => false)
    | .or_ a b => (match e with | .BoolOp .Or (x :: y :: es) p => chkE n cc a x && chkE n cc b (restB .Or y es p) | _ => false)
    | .notv a => (match e with | .UnaryOp .Not x _ => chkE n cc a x | _ => false)
    | .ife c a b => (match e with | .IfExp t x y _ => chkT (chkE n cc) n c t && chkE n cc a x && chkE n cc b y | _ => false)
    | .tup es => (match e with | .Tuple xs _ _ => chkL (chkE n cc) es xs && decide (xs.length ≤ LIM) | _ => false)
    | .lst es => (match e with | .List xs _ => chkL (chkE n cc) es xs && decide (xs.length ≤ LIM) | _ => false)
    | .idx a i => (match e with | .Subscript x (.Slice ..) _ => false | .Subscript x y _ => chkE n cc a x && chkE n cc i y | _ => false)
    | .slc a lo hi => (match e with | .Subscript x (.Slice l h none _) _ => chkE n cc a x && chkO (chkE n cc) lo l && chkO (chkE n cc) hi h | _ => false)
    | .call f as => (match e with | .Call (.Name x _) es [] _ => decide (cc.fns[f]? = some x) && gloB cc x && chkA cc (chkE n cc) as es | _ => false)
    | .callk f as ks perm => (match e with | .Call (.Name x _) es kws _ => decide (cc.fns[f]? = some x) && gloB cc x && chkA cc (chkE n cc) as es && chkA cc (chkE n cc) ks (kws.map (·.value)) && kws.all (·.arg.isSome) && decide ((f, es.length, kws.filterMap (·.arg), perm) ∈ cc.pats) | _ => false)
    | .bi (.isi ts) as => (match e with
      | .Call (.Name x _) [y, t] [] _ => decide (x = "isinstance") && gloB cc x && chkL (chkE n cc) as [y] && tyT cc ts t
      | _ => false)
    | .bi .sset as => (match e with
      | .Call (.Name x _) [.Call (.Name y _) [z] [] _] [] _ => decide (x = "sorted") && decide (y = "set") && gloB cc x && gloB cc y && chkL (chkE n cc) as [z]
      | _ => false)
    | .bi .rngT as => (match e with
      | .Call (.Name x _) [.Call (.Name y _) es [] _] [] _ => decide (x = "tuple") && decide (y = "range") && gloB cc x && gloB cc y && rngA (chkE n cc) as es
      | _ => false)
    | .bi .rngL as => (match e with
      | .Call (.Name x _) [.Call (.Name y _) es [] _] [] _ => decide (x = "list") && decide (y = "range") && gloB cc x && gloB cc y && rngA (chkE n cc) as es
      | _ => false)
    | .bi b as => (match e with | .Call (.Name x _) es [] _ => decide (x = biNm b) && biOk b && mathOk cc b && gloB cc x && chkL (chkE n cc) as es && !es.isEmpty | _ => false)
    | .mth mn i as => (match e with | .Call (.Attribute (.Name y _) nm ap) es [] p => decide (nm = mnNm mn) && nameB cc i y && chkL (chkE n cc) as es && (ap.endLine == p.line) && decide (es.length < 20) && decide (mn ≠ .insert) && mnAr mn es | _ => false)
    | .comp el t it ifs own => (match e with
      | .ListComp elt [⟨tg, iter, cifs, ia⟩] scope _ => decide (ia = 0) && chkI cc (chkE n cc) tg it iter && blkC cc.N cc.sc scope (ownL cc.N own) && chkG (blkCC cc scope) n t tg && (slotsT n t).all (own.contains ·) &&
          chkF (chkT (chkE n (blkCC cc scope)) n) ifs cifs && chkE n (blkCC cc scope) el elt
      | _ => false)
    | .comp2 el t it ifs t2 it2 ifs2 own => (match e with
      | .ListComp elt [⟨tg, iter, cifs, ia⟩, ⟨tg1, iter1, cifs1, ia1⟩] scope _ => decide (ia = 0) && decide (ia1 = 0) && chkI cc (chkE n cc) tg it iter && blkC cc.N cc.sc scope (ownL cc.N own) && chkG (blkCC cc scope) n t tg && (slotsT n t).all (own.contains ·) &&
          chkF (chkT (chkE n (blkCC cc scope)) n) ifs cifs && chkI (blkCC cc scope) (chkE n (blkCC cc scope)) tg1 it2 iter1 && chkG (blkCC cc scope) n t2 tg1 && (slotsT n t2).all (own.contains ·) &&
          chkF (chkT (chkE n (blkCC cc scope)) n) ifs2 cifs1 && chkE n (blkCC cc scope) el elt
      | _ => false)
    | .rev a => (match e with | .Subscript x (.Slice none none (some (.UnaryOp .USub (.Constant (.int 1) _ _) _)) _) _ => chkE n cc a x | _ => false)
    | .jar i a => (match e with | .List [.Subscript (.Name x _) (.Slice none none (some (.UnaryOp .USub (.Constant (.int 1) _ _) _)) _) _, y] _ => nameB cc i x && chkE n cc a y | _ => false)
    | .slen i => (match e with | .Call (.Name x _) [.Name y _] [] _ => decide (x = "len") && gloB cc x && nameB cc i y | _ => false)
    | .sidx i a => (match e with | .Subscript (.Name x _) (.Slice ..) _ => false | .Subscript (.Name x _) y _ => nameB cc i x && chkE n cc a y | _ => false)
    | .mtd md i as => (match e with | .Call (.Attribute (.Name y _) nm ap) es [] p => decide (nm = mdNm md) && nameB cc i y && chkL (chkE n cc) as es && (ap.endLine == p.line) && decide (es.length < 20) && !es.isEmpty | _ => false)
    | _ => false
end GM

set_option maxRecDepth 100000
/-! GM: expressions keep what wpE says -/
namespace GM
open PySem PySem.Spec PyProof.Rows L2

def blts : List Str := ["len", "abs", "int", "tuple", "list", "sorted", "sum", "min", "max", "isinstance", "bool", "str", "range", "enumerate", "zip", "reversed", "set", "dict"]
/-- a def's promise, by its data -/
def ArgR (K : PySem.W.Frag) (F H P : Hp) : V → U → Prop
  | v, .v d => Rep F v d
  | v, .r xs => ∃ a vs, v = .ref a ∧ H a = some (.lst vs) ∧ F a = none ∧ Reps F vs xs
  | v, .s ns => ∃ a, v = .ref a ∧ SqL K P a (ns.map V.int) ∧ ns.length ≤ LIM
  | _, _ => False
def RefAt (vs : List V) (us : List U) (b : Addr) : Prop := ∃ (i : Nat) (xs : List D), us[i]? = some (.r xs) ∧ vs[i]? = some (.ref b)
open Classical in
/-- what a callee leaves alone -/
noncomputable def Prot (H : Hp) (vs : List V) (us : List U) : Hp := fun b => if RefAt vs us b then none else H b
structure After (F H F' H' : Hp) (vs : List V) (us us' : List U) : Prop where
  f : Same F F'
  le : Same F' H'
  new : ∀ b, F' b ≠ none → F b ≠ none ∨ H b = none
  keep : ∀ b o, H b = some o → ¬ RefAt vs us b → H' b = some o
  refs : ∀ (i : Nat) xs, us[i]? = some (.r xs) → ∃ ys a ws, us'[i]? = some (.r ys) ∧ vs[i]? = some (.ref a) ∧ H' a = some (.lst ws) ∧ F' a = none ∧ Reps F' ws ys
def Apart (vs : List V) (us : List U) : Prop := ∀ (i j : Nat) xs ys a, i ≠ j → us[i]? = some (.r xs) → us[j]? = some (.r ys) → vs[i]? = some (.ref a) → vs[j]? = some (.ref a) → False
def spOf (K : PySem.W.Frag) (CT : CTab) (S : FS) : Sp := fun vs H Q E => ∃ (a : S.α) (F : Hp), Same F H ∧ Paired (ArgR K F H (Prot H vs (S.args a))) vs (S.args a) ∧ Apart vs (S.args a) ∧ S.pre a ∧
  (∀ r us' v F' H', S.post a r us' → After F H F' H' vs (S.args a) us' → RN H F' H' v r → Q v H') ∧
  (∀ x us' cls d F' H', S.exc a x us' → After F H F' H' vs (S.args a) us' → XR CT F' x cls d → E cls d H')
/-- how a call with keywords binds: p's places, of the positional values and the keywords', in the parameters' order -/
def KB (K : PySem.W.Frag) (fd : FuncData) (ps : List Str) (p : Nat × Nat × List Str × List Nat) : Prop :=
  ∀ (s : Shared) (us ws : List Value), K.In s.heap → us.length = p.2.1 → ws.length = p.2.2.1.length → BindsTo s fd ⟨us, p.2.2.1.zip ws⟩ (ps.zip (p.2.2.2.filterMap fun k => (us ++ ws)[k]?))
/-- a def that stands ready to be called -/
structure FnG (X : Cx) (cc : CC) (CT : CTab) (f : Nat) (S : FS) : Prop where
  ex : ∃ (x : Str) (fa : Addr) (fd : FuncData) (ps : List Str) (k : Nat), cc.fns[f]? = some x ∧ X.mg x = some (.ref fa) ∧ PySem.W.keepIn X.K (.ref fa) = true ∧ Binds X.K fd ps [] ∧
    FnOk X.prog X.w X.K X.mg X.base (L2.CX X.prog X.w) k fa fd ps (spOf X.K CT S) ∧ Room k X.A ∧ ∀ p ∈ cc.pats, p.1 = f → KB X.K fd ps p
/-- a class's name: an own class, or a built-in one -/
def CatN (mg : Str → Option Value) (x : Str) (D : Value) : Prop := (∃ A, D = .ref A ∧ mg x = some (.ref A)) ∨ ∃ T, D = .type T ∧ mg x = none ∧ bootBuiltins x = some (.type T) ∧ x ≠ "__name__"
structure Ok (Γ : Nat → Option FS) (CT : CTab) (X : Cx) (W : WX) (cc : CC) : Prop where
  n : X.N = cc.N
  nd : X.N.Nodup
  sc : X.env.scope = cc.sc
  st : ∀ x, cc.st x = true → Loc X.env.scope x ∧ (X.fn x = true ∨ X.env.scope.names.lookup x = some .local)
  calm : X.calm = true
  tk : Takes X W
  po : PassesOwn (model X.prog X.w) X.A X.env X.xe
  un : X.A.units + 65 < cLine
  blt : ∀ x ∈ blts, X.mg x = none
  gcd : cc.gcd = true → X.mg "gcd" = some (.builtin "math.gcd")
  lcm : cc.lcm = true → X.mg "lcm" = some (.builtin "math.lcm")
  cons : ∀ x i, cc.cons.lookup x = some i → ∃ t, X.mg x = some (.int i t)
  fns : ∀ f S, Γ f = some S → FnG X cc CT f S
  full : ∀ f x, cc.fns[f]? = some x → ∃ S, Γ f = some S
  frm : cc.top = true → X.stack = X.env :: X.outer ∧ X.env.frame = some X.env.locals
  xc : ∀ c C ns, CT c = some (C, ns) → ErrC X.K C ns
  cat : ∀ d x, (d, x) ∈ cc.cats → ∃ D : Value, CatN X.mg x D ∧ ∀ c C ns, CT c = some (C, ns) → PySem.W.exmOne X.K (.ref C) D = some (subX c d) ∧ PySem.W.kitOne X.K (.ref C) D = some (subX c d)
  exs : ∀ c x ns, (c, x, ns) ∈ cc.excs → ∃ C k, CT c = some (C, ns) ∧ X.mg x = some (.ref C) ∧ PySem.W.keepIn X.K (.ref C) = true ∧ Raises X (.ref C) ∧ EX.Makes X.prog X.w X.K X.mg C ns ∧ Room (k + 1) X.A
def PX (CT : CTab) (K : PySem.W.Frag) (W : WX) (Z : Zt) (σ : L2.St) (F : Hp) : QX := fun x env' => ∀ cls d F' H', Same F F' → SR K Z F' H' σ env' → XR CT F' x cls d → W cls d σ H'
def PV (K : PySem.W.Frag) (Z : Zt) (σ : L2.St) (F : Hp) (Q : VK) : U → Env → Prop := fun u env' => ∀ v F' H', Same F F' → SR K Z F' H' σ env' → RU Z F' H' σ env' v u → Q v H'
def PO' (K : PySem.W.Frag) (Z : Zt) (σ : L2.St) (F : Hp) (Q : VK) : Op → Env → Prop := fun o env' => ∀ v F' H', Same F F' → SR K Z F' H' σ env' → RO F' σ v o → Q v H'
def PB (K : PySem.W.Frag) (Z : Zt) (σ : L2.St) (F : Hp) (Q : Bool → Hp → Prop) : Bool → Env → Prop := fun b env' => ∀ F' H', Same F F' → SR K Z F' H' σ env' → Q b H'
theorem PX.lift {CT : CTab} {K : PySem.W.Frag} {W : WX} {Z : Zt} {σ : L2.St} {F F1 : Hp} (s : Same F F1) : ∀ x e, PX CT K W Z σ F x e → PX CT K W Z σ F1 x e := fun _ _ h cls d F' H' s' => h cls d F' H' (s.trans s')
def tE (Γ : Nat → Option FS) (CT : CTab) (K : PySem.W.Frag) (W : WX) (Z : Zt) (n : Nat) (m : M) : TE := fun σ H Q => ∃ F env, SR K Z F H σ env ∧ wpE Γ n m env (PX CT K W Z σ F) (PV K Z σ F Q)
def tR (Γ : Nat → Option FS) (CT : CTab) (K : PySem.W.Frag) (W : WX) (Z : Zt) (n : Nat) (m : M) : TE := fun σ H Q => ∃ F env, SR K Z F H σ env ∧ wpR (wpE Γ n) m env (PX CT K W Z σ F) (PO' K Z σ F Q)
def tT (Γ : Nat → Option FS) (CT : CTab) (K : PySem.W.Frag) (W : WX) (Z : Zt) (n k : Nat) (m : M) : TT := fun σ H Q => ∃ F env, SR K Z F H σ env ∧ wpT (wpE Γ n) k m env (PX CT K W Z σ F) (PB K Z σ F Q)
def tOs (Γ : Nat → Option FS) (CT : CTab) (K : PySem.W.Frag) (W : WX) (Z : Zt) (n : Nat) (ms : List M) : TA := fun σ H Q => ∃ F env, SR K Z F H σ env ∧ wpOs (wpE Γ n) ms env (PX CT K W Z σ F) fun os env' => ∀ vs F' H', Same F F' → SR K Z F' H' σ env' → ROs F' σ vs os → Q vs H'
def tVs (Γ : Nat → Option FS) (CT : CTab) (K : PySem.W.Frag) (W : WX) (Z : Zt) (n : Nat) (ms : List M) : TA := fun σ H Q => ∃ F env, SR K Z F H σ env ∧ wpVs (wpE Γ n) ms env (PX CT K W Z σ F) fun ds env' => ∀ vs F' H', Same F F' → SR K Z F' H' σ env' → Reps F' vs ds → Q vs H'
def tAs (Γ : Nat → Option FS) (CT : CTab) (K : PySem.W.Frag) (W : WX) (Z : Zt) (n : Nat) (ms : List M) : TA := fun σ H Q => ∃ F env, SR K Z F H σ env ∧ wpAs (wpE Γ n) ms env (PX CT K W Z σ F) fun os env' => ∀ vs F' H', Same F F' → SR K Z F' H' σ env' → ROs F' σ vs os → Q vs H'
theorem PE.imp {X : Cx} {e : Expr} {t t' : TE} (h : PE X e t) (f : ∀ σ H Q, t' σ H Q → t σ H Q) : PE X e t' := ⟨fun pins s σ H Q I q => h.run pins s σ H Q I (f _ _ _ q)⟩
theorem PT.imp {X : Cx} {e : Expr} {t t' : TT} (h : PT X e t) (f : ∀ σ H Q, t' σ H Q → t σ H Q) : PT X e t' := ⟨fun pins s σ H Q I q => h.run pins s σ H Q I (f _ _ _ q)⟩
theorem PA.imp {X : Cx} {es : List Expr} {t t' : TA} (h : PA X es t) (f : ∀ σ H Q, t' σ H Q → t σ H Q) : PA X es t' := ⟨fun pos pins s σ H Q I q => h.run pos pins s σ H Q I (f _ _ _ q)⟩
def SoundE (Γ : Nat → Option FS) (CT : CTab) (n : Nat) : Prop := ∀ (cc : CC) (X : Cx) (W : WX), Ok Γ CT X W cc → ∀ (Z : Zt) (m : M) (e : Expr), chkE n cc m e = true → PE X e (tE Γ CT X.K W Z n m)

/-! ### names -/
theorem and_split {a b : Bool} (h : (a && b) = true) : a = true ∧ b = true := by simpa using h
theorem not_true {a : Bool} (h : (!a) = true) : a = false := by simpa using h
theorem vis_of {sc : Scope} {x : Str} (h : visB sc x = true) : Vis sc x := by
  unfold visB at h
  split at h
  · exact .inl (by assumption)
  · exact .inr (.inl (by assumption))
  · exact .inr (.inr (by assumption))
  · cases h
section
variable {Γ : Nat → Option FS} {CT : CTab} {X : Cx} {W : WX} {cc : CC} {Z : Zt}
theorem Ok.name (ok : Ok Γ CT X W cc) {i : Nat} {x : Str} (h : nameB cc i x = true) : X.N[i]? = some x ∧ Vis X.env.scope x ∧ (x == ("__debug__" : Str)) = false ∧ (x == ("__classdict__" : Str)) = false := by
  unfold nameB at h
  obtain ⟨h, h4⟩ := and_split h
  obtain ⟨h, h3⟩ := and_split h
  obtain ⟨h1, h2⟩ := and_split h
  exact ⟨by rw [ok.n]; exact of_decide_eq_true h1, by rw [ok.sc]; exact vis_of h2, not_true h3, not_true h4⟩
theorem Ok.gl (ok : Ok Γ CT X W cc) {x : Str} (h : gloB cc x = true) : Gl X x ∧ (x == ("__debug__" : Str)) = false := by
  unfold gloB glB at h
  obtain ⟨h1, h2⟩ := and_split h
  refine ⟨?_, not_true h2⟩
  show X.env.scope.names.lookup x = _
  rw [ok.sc]; exact of_decide_eq_true h1
theorem pe_name (ok : Ok Γ CT X W cc) {i : Nat} {x : Str} {pos : Pos} (h : nameB cc i x = true) : PE X (.Name x pos) (tVar i) := by
  obtain ⟨h1, h2, h3, h4⟩ := ok.name h
  exact pe_var h1 h2 h3 h4
theorem chk_star {n : Nat} {m : M} {e : Expr} (h : chkE n cc m e = true) (env : Env) (es : List Expr) (env' : PySem.Env) : starEach (e :: es) env' = (false, eval e env') :: starEach es env' := by
  cases e with
  | Starred v p =>
    cases n with
    | zero => cases h
    | succ n => cases m with
      | bi b as => cases b <;> cases h
      | _ => cases h
  | _ => rfl
theorem name_star {x : Str} {p : Pos} {es : List Expr} {env' : PySem.Env} : starEach (.Name x p :: es) env' = (false, eval (.Name x p) env') :: starEach es env' := rfl

/-! ### operands, argument lists -/
variable {n : Nat} (IH : SoundE Γ CT n)
include IH
theorem snd_R (ok : Ok Γ CT X W cc) (Z : Zt) {m : M} {e : Expr} (h : chkE n cc m e = true) : PE X e (tR Γ CT X.K W Z n m) := by
  by_cases hv : ∃ i, m = .var i
  · obtain ⟨i, rfl⟩ := hv
    cases n with
    | zero => cases h
    | succ k =>
      cases e with
      | Name x p =>
        refine PE.imp (pe_name ok (i := i) h) fun σ H Q ⟨F, env, S, q⟩ => ?_
        obtain ⟨u, e1, q⟩ := optP_get q
        obtain ⟨v, e2, _⟩ := S.slot i u e1
        exact ⟨v, e2, q v F H same_refl S e2⟩
      | _ => cases h
  · refine PE.imp (IH cc X W ok Z m e h) fun σ H Q ⟨F, env, S, q⟩ => ⟨F, env, S, ?_⟩
    have q' : wpE Γ n m env (PX CT X.K W Z σ F) fun u env' => optP u.fz fun d => PO' X.K Z σ F Q (.d d) env' := by
      cases m <;> first | exact q | exact absurd ⟨_, rfl⟩ hv
    refine wpE_mono Γ n _ _ _ _ _ _ q' (fun _ _ z => z) fun u env1 h1 v F1 H1 s1 S1 r1 => ?_
    obtain ⟨d, e1, h2⟩ := optP_get h1
    obtain ⟨F2, s2, S2, r2⟩ := RU.fz S1 r1 e1
    exact h2 v F2 H1 (s1.trans s2) S2 r2
theorem snd_Os (ok : Ok Γ CT X W cc) (Z : Zt) : ∀ {ms : List M} {es : List Expr}, chkL (chkE n cc) ms es = true → PA X es (tOs Γ CT X.K W Z n ms)
  | [], [], _ => PA.imp pa_nil fun σ H Q ⟨F, env, S, q⟩ => q [] F H same_refl S .nil
  | m :: ms, e :: es, h => by
    obtain ⟨h1, h2⟩ := and_split h
    refine PA.imp (pa_cons (snd_R IH ok Z h1) (snd_Os ok Z h2) (chk_star h1 [] es _)) fun σ H Q ⟨F, env, S, q⟩ => ⟨F, env, S, ?_⟩
    have M := wpE_mono Γ n
    rw [wpOs_cons] at q
    refine wpR_mono M q (fun _ _ z => z) fun o env1 q1 v F1 H1 s1 S1 r1 => ⟨F1, env1, S1, ?_⟩
    refine wpOs_mono M (fx := True) q1 (PX.lift s1) fun os env2 q2 vs F2 H2 s2 S2 r2 => ?_
    exact q2 (v :: vs) F2 H2 (s1.trans s2) S2 (.cons (RO.mono s2 r1) r2)
  | [], _ :: _, h => by cases h
  | _ :: _, [], h => by cases h
theorem snd_Vs (ok : Ok Γ CT X W cc) (Z : Zt) : ∀ {ms : List M} {es : List Expr}, chkL (chkE n cc) ms es = true → PA X es (tVs Γ CT X.K W Z n ms)
  | [], [], _ => PA.imp pa_nil fun σ H Q ⟨F, env, S, q⟩ => q [] F H same_refl S .nil
  | m :: ms, e :: es, h => by
    obtain ⟨h1, h2⟩ := and_split h
    refine PA.imp (pa_cons (IH cc X W ok Z m e h1) (snd_Vs ok Z h2) (chk_star h1 [] es _)) fun σ H Q ⟨F, env, S, q⟩ => ⟨F, env, S, ?_⟩
    have M := wpE_mono Γ n
    refine M _ _ _ _ _ _ q (fun _ _ z => z) fun u env1 q1 v F1 H1 s1 S1 r1 => ?_
    obtain ⟨d, e1, q1⟩ := optP_get q1
    obtain ⟨F2, s2, S2, r2⟩ := RU.fz S1 r1 e1
    refine ⟨F2, env1, S2, wpVs_mono M q1 (PX.lift (s1.trans s2)) fun ds env2 q2 vs F3 H3 s3 S3 r3 => ?_⟩
    exact q2 (v :: vs) F3 H3 ((s1.trans s2).trans s3) S3 (.cons (r2.mono s3) r3)
  | [], _ :: _, h => by cases h
  | _ :: _, [], h => by cases h
theorem snd_As (ok : Ok Γ CT X W cc) (Z : Zt) : ∀ {ms : List M} {es : List Expr}, chkA cc (chkE n cc) ms es = true → PA X es (tAs Γ CT X.K W Z n ms)
  | [], [], _ => PA.imp pa_nil fun σ H Q ⟨F, env, S, q⟩ => q [] F H same_refl S .nil
  | m :: ms, e :: es, h => by
    have M := wpE_mono Γ n
    by_cases hv : ∃ i, m = .refv i
    · obtain ⟨i, rfl⟩ := hv
      cases e with
      | Name x p =>
        obtain ⟨h1, h2⟩ := and_split (show (nameB cc i x && chkA cc (chkE n cc) ms es) = true from h)
        refine PA.imp (pa_cons (pe_name ok h1) (snd_As ok Z h2) name_star) fun σ H Q ⟨F, env, S, q⟩ => ?_
        obtain ⟨u, e1, q⟩ := optP_get q
        obtain ⟨v, e2, _⟩ := S.slot i u e1
        refine ⟨v, e2, F, env, S, wpAs_mono M q (fun _ _ z => z) fun os env2 q2 vs F2 H2 s2 S2 r2 => ?_⟩
        exact q2 (v :: vs) F2 H2 s2 S2 (.cons e2 r2)
      | _ =>
        have h' : (chkE n cc (.refv i) _ && chkA cc (chkE n cc) ms es) = true := h
        obtain ⟨h1, _⟩ := and_split h'
        cases n <;> cases h1
    · have h' : (chkE n cc m e && chkA cc (chkE n cc) ms es) = true := by
        cases m <;> first | exact h | exact absurd ⟨_, rfl⟩ hv
      obtain ⟨h1, h2⟩ := and_split h'
      refine PA.imp (pa_cons (IH cc X W ok Z m e h1) (snd_As ok Z h2) (chk_star h1 [] es _)) fun σ H Q ⟨F, env, S, q⟩ => ⟨F, env, S, ?_⟩
      have q' : wpE Γ n m env (PX CT X.K W Z σ F) fun u env1 => optP u.fz fun d => wpAs (wpE Γ n) ms env1 (PX CT X.K W Z σ F) fun os env2 => ∀ vs F' H', Same F F' → SR X.K Z F' H' σ env2 → ROs F' σ vs (.d d :: os) → Q vs H' := by
        cases m <;> first | exact q | exact absurd ⟨_, rfl⟩ hv
      refine M _ _ _ _ _ _ q' (fun _ _ z => z) fun u env1 q1 v F1 H1 s1 S1 r1 => ?_
      obtain ⟨d, e1, q1⟩ := optP_get q1
      obtain ⟨F2, s2, S2, r2⟩ := RU.fz S1 r1 e1
      refine ⟨F2, env1, S2, wpAs_mono M q1 (PX.lift (s1.trans s2)) fun ds env2 q2 vs F3 H3 s3 S3 r3 => ?_⟩
      exact q2 (v :: vs) F3 H3 ((s1.trans s2).trans s3) S3 (.cons (r2.mono s3) r3)
  | [], _ :: _, h => by cases h
  | m :: _, [], h => by cases m <;> cases h

/-! ### nodes -/
/-- two operands, then an operation by values -/
theorem two_R {op : BOp} (Z : Zt) {a b : M} {σ : L2.St} {H : Hp} {R : V → V → Hp → Prop} {F : Hp} {env : Env} (S : SR X.K Z F H σ env) {Qf : Op → Op → Env → Prop}
    (q : wpR (wpE Γ n) a env (PX CT X.K W Z σ F) fun oa env1 => wpR (wpE Γ n) b env1 (PX CT X.K W Z σ F) fun ob env2 => Qf oa ob env2)
    (f : ∀ oa ob env2 x y F2 H2, Qf oa ob env2 → Same F F2 → SR X.K Z F2 H2 σ env2 → RO F2 σ x oa → RO F2 σ y ob → R x y H2) :
    tR Γ CT X.K W Z n a σ H fun x H1 => tR Γ CT X.K W Z n b σ H1 fun y H2 => R x y H2 := by
  have M := wpE_mono Γ n
  refine ⟨F, env, S, wpR_mono M q (fun _ _ z => z) fun oa env1 q1 x F1 H1 s1 S1 r1 => ?_⟩
  refine ⟨F1, env1, S1, wpR_mono M q1 (PX.lift s1) fun ob env2 q2 y F2 H2 s2 S2 r2 => ?_⟩
  exact f oa ob env2 x y F2 H2 q2 (s1.trans s2) S2 (RO.mono s2 r1) r2
end
end GM

set_option maxRecDepth 100000
/-! GM: expressions keep what wpE says: the nodes -/
namespace GM
open PySem PySem.Spec PyProof.Rows L2
section
variable {Γ : Nat → Option FS} {CT : CTab} {X : Cx} {W : WX} {cc : CC} {Z : Zt} {n : Nat}
theorem PV.done {K : PySem.W.Frag} {σ : L2.St} {F F2 H2 : Hp} {Q : VK} {r : U} {env2 : Env} (q : PV K Z σ F Q r env2) (s : Same F F2) (S : SR K Z F2 H2 σ env2) : ∀ v F' H', Grow F2 H2 F' H' → RN H2 F' H' v r → Q v H' :=
  fun v F' H' g rn => q v F' H' (s.trans g.f) (S.grow g) (RN.ru S rn)
theorem PV.same {K : PySem.W.Frag} {σ : L2.St} {F F2 H2 : Hp} {Q : VK} {d : D} {v : V} {env2 : Env} (q : PV K Z σ F Q (.v d) env2) (s : Same F F2) (S : SR K Z F2 H2 σ env2) (r : Rep F2 v d) : Q v H2 := q v F2 H2 s S r
theorem tru_rd {K : PySem.W.Frag} {F H : Hp} {v : V} {d : D} {t : Bool} (s : Same F H) (h : Rd F H v d) (e : truD d = some t) (c : truC d) : TruV K v H t := by
  cases d with
  | none => cases h.non; cases e; rfl
  | bool b => cases h.bl; cases e; rfl
  | int i => cases h.int; cases e; rfl
  | str x =>
    cases h.str
    cases e
    refine ⟨by rw [← limLine]; exact c, ?_⟩
    rw [Bool.eq_iff_iff]
    simp
  | list xs =>
    obtain ⟨a, vs, rfl, ha, ra⟩ := h.lst s
    cases e
    exact .inl ⟨vs, SqL.of ha, by rw [ra.isEmpty]⟩
  | tuple xs =>
    obtain ⟨a, vs, rfl, ha, _, ra⟩ := h.tup s
    cases e
    exact .inr (.inl ⟨vs, SqT.of ha, by rw [ra.isEmpty]⟩)
  | dict kvs => cases e
theorem chkL_len {rec : M → Expr → Bool} : ∀ {ms : List M} {es : List Expr}, chkL rec ms es = true → ms.length = es.length
  | [], [], _ => rfl
  | _ :: _, _ :: _, h => by obtain ⟨_, h2⟩ := and_split h; simp [chkL_len h2]
  | [], _ :: _, h => by cases h
  | _ :: _, [], h => by cases h
theorem wpVs_len {rec : WE} (MR : MonoE rec) : ∀ {ms : List M} {env : Env} {Qx : QX} {Q : List D → Env → Prop}, wpVs rec ms env Qx Q → wpVs rec ms env Qx fun ds e => ds.length = ms.length ∧ Q ds e
  | [], _, _, _, h => ⟨rfl, h⟩
  | m :: ms, _, _, _, h => MR _ _ _ _ _ _ h (fun _ _ z => z) fun _ _ h1 => optP_mono h1 fun _ h2 => wpVs_mono MR (wpVs_len MR h2) (fun _ _ z => z) fun _ _ ⟨e, q⟩ => ⟨by simp [e], q⟩
theorem plus_len {a b : Nat} (h : a = b) (c : b ≤ LIM) : a ≤ sizeLine := by rw [h, ← limLine]; exact c
theorem plain_ix {b : Expr} (h : ∀ l u s p, b ≠ .Slice l u s p) : PlainIx b := by
  intro o i
  cases b <;> first | rfl | exact absurd rfl (h _ _ _ _)
theorem noStar {rec : M → Expr → Bool} {env : PySem.Env} {pos : Pos} (hs : ∀ m e, rec m e = true → ∀ es, starEach (e :: es) env = (false, eval e env) :: starEach es env) : ∀ {ms : List M} {es : List Expr}, chkL rec ms es = true → (backTo pos (starEach es env)).any (·.1) = false
  | [], [], _ => rfl
  | m :: ms, e :: es, h => by
    obtain ⟨h1, h2⟩ := and_split h
    have ih := noStar (pos := pos) hs h2
    rw [hs m e h1]
    unfold backTo at ih ⊢
    rw [List.map_cons, List.any_cons, ih]
    rfl
  | [], _ :: _, h => by cases h
  | _ :: _, [], h => by cases h
theorem noStarA {rec : M → Expr → Bool} {env : PySem.Env} {pos : Pos} (hs : ∀ m e, rec m e = true → ∀ es, starEach (e :: es) env = (false, eval e env) :: starEach es env) : ∀ {ms : List M} {es : List Expr}, chkA cc rec ms es = true → (backTo pos (starEach es env)).any (·.1) = false
  | [], [], _ => rfl
  | m :: ms, e :: es, h => by
    by_cases hv : ∃ i x p, m = .refv i ∧ e = .Name x p
    · obtain ⟨i, x, p, rfl, rfl⟩ := hv
      obtain ⟨h1, h2⟩ := and_split (show (nameB cc i x && chkA cc rec ms es) = true from h)
      have ih := noStarA (pos := pos) hs h2
      rw [name_star]
      unfold backTo at ih ⊢
      rw [List.map_cons, List.any_cons, ih]
      rfl
    · have h' : (rec m e && chkA cc rec ms es) = true := by
        cases m <;> first | exact h | (cases e <;> first | exact h | exact absurd ⟨_, _, _, rfl, rfl⟩ hv)
      obtain ⟨h1, h2⟩ := and_split h'
      have ih := noStarA (pos := pos) hs h2
      rw [hs m e h1]
      unfold backTo at ih ⊢
      rw [List.map_cons, List.any_cons, ih]
      rfl
  | [], _ :: _, h => by cases h
  | m :: _, [], h => by cases m <;> cases h
theorem star_first {rec : M → Expr → Bool} {env : PySem.Env} (hs : ∀ m e, rec m e = true → ∀ es, starEach (e :: es) env = (false, eval e env) :: starEach es env) {ms : List M} {e : Expr} {es : List Expr} (h : chkA cc rec ms (e :: es) = true) :
    starEach (e :: es) env = (false, eval e env) :: starEach es env ∧ (∀ pos, (backTo pos (starEach es env)).any (·.1) = false) := by
  cases ms with
  | nil => cases h
  | cons m ms =>
    by_cases hv : ∃ i x p, m = .refv i ∧ e = .Name x p
    · obtain ⟨i, x, p, rfl, rfl⟩ := hv
      obtain ⟨h1, h2⟩ := and_split (show (nameB cc i x && chkA cc rec ms es) = true from h)
      exact ⟨name_star, fun pos => noStarA hs h2⟩
    · have h' : (rec m e && chkA cc rec ms es) = true := by
        cases m <;> first | exact h | (cases e <;> first | exact h | exact absurd ⟨_, _, _, rfl, rfl⟩ hv)
      obtain ⟨h1, h2⟩ := and_split h'
      exact ⟨hs m e h1 es, fun pos => noStarA hs h2⟩

variable (IH : SoundE Γ CT n)
include IH
theorem snd_var (ok : Ok Γ CT X W cc) (Z : Zt) {i : Nat} {e : Expr} (h : chkE (n + 1) cc (.var i) e = true) : PE X e (tE Γ CT X.K W Z (n + 1) (.var i)) := by
  cases e with
  | Name x p =>
    refine PE.imp (pe_name ok (i := i) h) fun σ H Q ⟨F, env, S, q⟩ => ?_
    obtain ⟨⟨u, env1⟩, e1, q⟩ := optP_get q
    obtain ⟨v, F', d, hp, hσ, s, S', rep⟩ := S.esc e1
    cases hp
    exact ⟨v, hσ, q v F' H s S' rep⟩
  | _ => cases h
theorem snd_con (ok : Ok Γ CT X W cc) (Z : Zt) {d : D} {e : Expr} (h : chkE (n + 1) cc (.con d) e = true) : PE X e (tE Γ CT X.K W Z (n + 1) (.con d)) := by
  cases e with
  | Constant c k p =>
    have h' : conB d c = true := h
    cases d <;> cases c <;> first | (cases h'; done) | skip
    · exact PE.imp pe_non fun σ H Q ⟨F, env, S, q⟩ => q _ F H same_refl S .non
    · have e1 := eq_of_beq h'
      subst e1
      exact PE.imp pe_bl fun σ H Q ⟨F, env, S, q⟩ => q _ F H same_refl S (.bl _)
    · have e1 := of_decide_eq_true h'
      subst e1
      exact PE.imp pe_int fun σ H Q ⟨F, env, S, q⟩ => q _ F H same_refl S (.int _)
    · have e1 := of_decide_eq_true h'
      subst e1
      exact PE.imp pe_str fun σ H Q ⟨F, env, S, q⟩ => q _ F H same_refl S (.str _)
  | Name x p =>
    cases d with
    | int i =>
      obtain ⟨h1, h2⟩ := and_split (show (gloB cc x && decide (cc.cons.lookup x = some i)) = true from h)
      obtain ⟨g, gd⟩ := ok.gl h1
      obtain ⟨t, ht⟩ := ok.cons x i (of_decide_eq_true h2)
      exact PE.imp (pe_glob (v := .int i) g ht ⟨t, rfl⟩ gd) fun σ H Q ⟨F, env, S, q⟩ => q _ F H same_refl S (.int _)
    | _ => cases h
  | _ => cases h
theorem snd_bin (ok : Ok Γ CT X W cc) (Z : Zt) {op : BOp} {a b : M} {e : Expr} (h : chkE (n + 1) cc (.bin op a b) e = true) : PE X e (tE Γ CT X.K W Z (n + 1) (.bin op a b)) := by
  cases e with
  | BinOp l o r p =>
    obtain ⟨h, h3⟩ := and_split (show (decide (o = opOf op) && chkE n cc a l && chkE n cc b r) = true from h)
    obtain ⟨h1, h2⟩ := and_split h
    have e1 := of_decide_eq_true h1
    subst e1
    refine PE.imp (pe_op (op_bin op) (snd_R IH ok Z h2) (snd_R IH ok Z h3)) fun σ H Q ⟨F, env, S, q⟩ => ?_
    rw [wpE_succ] at q
    unfold wpE1 at q
    dsimp only at q
    refine two_R IH (op := op) Z S q fun oa ob env2 x y F2 H2 q2 s2 S2 r1 r2 => ?_
    obtain ⟨dx, ex, q2⟩ := optP_get q2
    obtain ⟨dy, ey, q2⟩ := optP_get q2
    obtain ⟨r, er, q2⟩ := optP_get q2
    obtain ⟨c, q2⟩ := ckP_get q2
    exact ⟨F2, dx, dy, r, S2.le, r1.rd S2 same_refl ex, r2.rd S2 same_refl ey, er, c, q2.done s2 S2⟩
  | _ => cases h
theorem snd_neg (ok : Ok Γ CT X W cc) (Z : Zt) {a : M} {e : Expr} (h : chkE (n + 1) cc (.neg a) e = true) : PE X e (tE Γ CT X.K W Z (n + 1) (.neg a)) := by
  cases e with
  | UnaryOp o x p =>
    cases o with
    | USub =>
      refine PE.imp (pe_un un_neg (snd_R IH ok Z (m := a) h)) fun σ H Q ⟨F, env, S, q⟩ => ?_
      rw [wpE_succ] at q
      unfold wpE1 at q
      dsimp only at q
      refine ⟨F, env, S, ?_⟩
      refine wpR_mono (wpE_mono Γ n) q (fun _ _ z => z) fun oa env1 q1 v F1 H1 s1 S1 r1 => ?_
      obtain ⟨d, e1, q1⟩ := optP_get q1
      obtain ⟨d2, e2, q1⟩ := optP_get q1
      have rr := r1.rd S1 same_refl e1
      cases d with
      | int i => cases e2; cases rr.int; exact ⟨i, rfl, PV.same q1 s1 S1 (.int _)⟩
      | _ => cases e2
    | _ => cases h
  | _ => cases h
/-- a comparison's reading -/
theorem cmp_read (ok : Ok Γ CT X W cc) (Z : Zt) {op : COp} {a b : M} {σ : L2.St} {H : Hp} {F : Hp} {env : Env} (S : SR X.K Z F H σ env) {Qf : U → Env → Prop} {Q : VK}
    (q : wpE Γ (n + 1) (.cmp op a b) env (PX CT X.K W Z σ F) Qf) (f : ∀ r env2 F2 H2, Qf (.v (.bool r)) env2 → Same F F2 → SR X.K Z F2 H2 σ env2 → Q (.bl r) H2) :
    tOp (rCmp op) (tR Γ CT X.K W Z n a) (tR Γ CT X.K W Z n b) σ H Q := by
  rw [wpE_succ] at q
  unfold wpE1 at q
  dsimp only at q
  refine two_R IH (op := .add) Z S q fun oa ob env2 x y F2 H2 q2 s2 S2 r1 r2 => ?_
  obtain ⟨dx, ex, q2⟩ := optP_get q2
  obtain ⟨dy, ey, q2⟩ := optP_get q2
  obtain ⟨r, er, q2⟩ := optP_get q2
  obtain ⟨c, q2⟩ := ckP_get q2
  exact ⟨F2, dx, dy, r, S2.le, r1.rd S2 same_refl ex, r2.rd S2 same_refl ey, er, c, f _ _ _ _ q2 s2 S2⟩
theorem chain_read (ok : Ok Γ CT X W cc) (Z : Zt) {o1 o2 : COp} {a b c : M} {σ : L2.St} {H : Hp} {F : Hp} {env : Env} (S : SR X.K Z F H σ env) {Qf : U → Env → Prop} {Q : VK}
    (q : wpE Γ (n + 1) (.chain o1 o2 a b c) env (PX CT X.K W Z σ F) Qf) (f : ∀ r env2 F2 H2, Qf (.v (.bool r)) env2 → Same F F2 → SR X.K Z F2 H2 σ env2 → Q (.bl r) H2) :
    tChain (rCmp o1) (rCmp o2) (tR Γ CT X.K W Z n a) (tR Γ CT X.K W Z n b) (tR Γ CT X.K W Z n c) σ H Q := by
  rw [wpE_succ] at q
  unfold wpE1 at q
  dsimp only at q
  refine two_R IH (op := .add) Z S q fun oa ob env2 x y F2 H2 q2 s2 S2 r1 r2 => ?_
  obtain ⟨dx, ex, q2⟩ := optP_get q2
  obtain ⟨dy, ey, q2⟩ := optP_get q2
  obtain ⟨r, er, q2⟩ := optP_get q2
  obtain ⟨cc1, q2⟩ := ckP_get q2
  obtain ⟨qt, qf⟩ := brP_get q2
  refine ⟨F2, dx, dy, r, S2.le, r1.rd S2 same_refl ex, r2.rd S2 same_refl ey, er, cc1, r, rfl, ?_⟩
  cases r with
  | false => exact f _ _ _ _ (qf rfl) s2 S2
  | true =>
    refine ⟨F2, env2, S2, wpR_mono (wpE_mono Γ n) (qt rfl) (PX.lift s2) fun oc env3 q3 z F3 H3 s3 S3 r3 => ?_⟩
    obtain ⟨dy', ey', q3⟩ := optP_get q3
    obtain ⟨dz, ez, q3⟩ := optP_get q3
    obtain ⟨r', er', q3⟩ := optP_get q3
    obtain ⟨cc2, q3⟩ := ckP_get q3
    exact ⟨F3, dy', dz, r', S3.le, r2.rd S3 s3 ey', r3.rd S3 same_refl ez, er', cc2, f _ _ _ _ q3 (s2.trans s3) S3⟩
theorem snd_cmp (ok : Ok Γ CT X W cc) (Z : Zt) {op : COp} {a b : M} {e : Expr} (h : chkE (n + 1) cc (.cmp op a b) e = true) :
    PE X e (tE Γ CT X.K W Z (n + 1) (.cmp op a b)) ∧ PT X e (fun σ H Q => ∃ F env, SR X.K Z F H σ env ∧ ∃ Qf, wpE Γ (n + 1) (.cmp op a b) env (PX CT X.K W Z σ F) Qf ∧ ∀ r env2 F2 H2, Qf (.v (.bool r)) env2 → Same F F2 → SR X.K Z F2 H2 σ env2 → Q r H2) := by
  cases e with
  | Compare l os rs p =>
    match os, rs, h with
    | [o], [r], h =>
      obtain ⟨h, h4⟩ := and_split (show (decide (o = copOf op) && chkE n cc a l && chkE n cc b r && !behindInMarks o r) = true from h)
      obtain ⟨h, h3⟩ := and_split h
      obtain ⟨h1, h2⟩ := and_split h
      have e1 := of_decide_eq_true h1
      subst e1
      refine ⟨PE.imp (pe_cmpR (op_cmp op ok.un) (snd_R IH ok Z h2) (snd_R IH ok Z h3) (not_true h4)) fun σ H Q ⟨F, env, S, q⟩ => ?_,
        PT.imp (pt_cmpR (op_cmp op ok.un) (snd_R IH ok Z h2) (snd_R IH ok Z h3) (not_true h4)) fun σ H Q ⟨F, env, S, Qf, q, f⟩ => ?_⟩
      · exact cmp_read IH ok Z S q fun r env2 F2 H2 z s2 S2 => PV.same z s2 S2 (.bl r)
      · exact cmp_read IH ok Z S q fun r env2 F2 H2 z s2 S2 => ⟨r, rfl, f _ _ _ _ z s2 S2⟩
    | [], _, h => cases h
    | [_], [], h => cases h
    | [_], _ :: _ :: _, h => cases h
    | _ :: _ :: _, _, h => cases h
  | _ => cases h
theorem snd_chain (ok : Ok Γ CT X W cc) (Z : Zt) {o1 o2 : COp} {a b c : M} {e : Expr} (h : chkE (n + 1) cc (.chain o1 o2 a b c) e = true) :
    PE X e (tE Γ CT X.K W Z (n + 1) (.chain o1 o2 a b c)) ∧ PT X e (fun σ H Q => ∃ F env, SR X.K Z F H σ env ∧ ∃ Qf, wpE Γ (n + 1) (.chain o1 o2 a b c) env (PX CT X.K W Z σ F) Qf ∧ ∀ r env2 F2 H2, Qf (.v (.bool r)) env2 → Same F F2 → SR X.K Z F2 H2 σ env2 → Q r H2) := by
  cases e with
  | Compare l os rs p =>
    match os, rs, h with
    | [p1, p2], [r1, r2], h =>
      obtain ⟨h, h6⟩ := and_split (show (decide (p1 = copOf o1) && decide (p2 = copOf o2) && chkE n cc a l && chkE n cc b r1 && chkE n cc c r2 && !lastMarks [p1, p2] [r1, r2]) = true from h)
      obtain ⟨h, h5⟩ := and_split h
      obtain ⟨h, h4⟩ := and_split h
      obtain ⟨h, h3⟩ := and_split h
      obtain ⟨h1, h2⟩ := and_split h
      have e1 := of_decide_eq_true h1
      have e2 := of_decide_eq_true h2
      subst e1 e2
      refine ⟨PE.imp (pe_chain (op_cmp o1 ok.un) (op_cmp o2 ok.un) (snd_R IH ok Z h3) (snd_R IH ok Z h4) (snd_R IH ok Z h5) (not_true h6)) fun σ H Q ⟨F, env, S, q⟩ => ?_,
        PT.imp (pt_chain (op_cmp o1 ok.un) (op_cmp o2 ok.un) (snd_R IH ok Z h3) (snd_R IH ok Z h4) (snd_R IH ok Z h5) (not_true h6)) fun σ H Q ⟨F, env, S, Qf, q, f⟩ => ?_⟩
      · exact chain_read IH ok Z S q fun r env2 F2 H2 z s2 S2 => PV.same z s2 S2 (.bl r)
      · exact chain_read IH ok Z S q fun r env2 F2 H2 z s2 S2 => ⟨r, rfl, f _ _ _ _ z s2 S2⟩
    | [], _, h => cases h
    | [_], _, h => cases h
    | _ :: _ :: _ :: _, _, h => cases h
    | [_, _], [], h => cases h
    | [_, _], [_], h => cases h
    | [_, _], _ :: _ :: _ :: _, h => cases h
  | _ => cases h
theorem snd_rest (ok : Ok Γ CT X W cc) (Z : Zt) {op : BoolOp} {b : M} {y : Expr} {es : List Expr} {p : Pos} (h : chkE n cc b (restB op y es p) = true) : PE X (.BoolOp op (y :: es) p) (tE Γ CT X.K W Z n b) := by
  cases es with
  | nil => exact pe_one (IH cc X W ok Z b y h)
  | cons e es => exact IH cc X W ok Z b _ h
theorem snd_and (ok : Ok Γ CT X W cc) (Z : Zt) {a b : M} {e : Expr} (h : chkE (n + 1) cc (.and_ a b) e = true) : PE X e (tE Γ CT X.K W Z (n + 1) (.and_ a b)) := by
  cases e with
  | BoolOp o xs p =>
    match o, xs, h with
    | .And, x :: y :: es, h =>
      obtain ⟨h1, h2⟩ := and_split (show (chkE n cc a x && chkE n cc b (restB .And y es p)) = true from h)
      refine PE.imp (pe_andT (IH cc X W ok Z a x h1) (snd_rest IH ok Z h2)) fun σ H Q ⟨F, env, S, q⟩ => ?_
      rw [wpE_succ] at q
      unfold wpE1 at q
      dsimp only at q
      refine ⟨F, env, S, ?_⟩
      refine wpE_mono Γ n _ _ _ _ _ _ q (fun _ _ z => z) fun u env1 q1 v F1 H1 s1 S1 r1 => ?_
      obtain ⟨d, e1, q1⟩ := optP_get q1
      obtain ⟨t, e2, q1⟩ := optP_get q1
      obtain ⟨c, q1⟩ := ckP_get q1
      obtain ⟨qt, qf⟩ := brP_get q1
      obtain ⟨F2, s2, S2, r2⟩ := RU.fz S1 r1 e1
      refine ⟨t, tru_rd S2.le (.v r2) e2 c, ?_⟩
      cases t with
      | true => exact ⟨F2, env1, S2, wpE_mono Γ n _ _ _ _ _ _ (qt rfl) (PX.lift (s1.trans s2)) fun u2 env2 q2 v2 F3 H3 s3 S3 r3 => q2 v2 F3 H3 ((s1.trans s2).trans s3) S3 r3⟩
      | false => exact PV.same (qf rfl) (s1.trans s2) S2 r2
    | .Or, _, h => cases h
    | .And, [], h => cases h
    | .And, [_], h => cases h
  | _ => cases h
theorem snd_or (ok : Ok Γ CT X W cc) (Z : Zt) {a b : M} {e : Expr} (h : chkE (n + 1) cc (.or_ a b) e = true) : PE X e (tE Γ CT X.K W Z (n + 1) (.or_ a b)) := by
  cases e with
  | BoolOp o xs p =>
    match o, xs, h with
    | .Or, x :: y :: es, h =>
      obtain ⟨h1, h2⟩ := and_split (show (chkE n cc a x && chkE n cc b (restB .Or y es p)) = true from h)
      refine PE.imp (pe_orT (IH cc X W ok Z a x h1) (snd_rest IH ok Z h2)) fun σ H Q ⟨F, env, S, q⟩ => ?_
      rw [wpE_succ] at q
      unfold wpE1 at q
      dsimp only at q
      refine ⟨F, env, S, ?_⟩
      refine wpE_mono Γ n _ _ _ _ _ _ q (fun _ _ z => z) fun u env1 q1 v F1 H1 s1 S1 r1 => ?_
      obtain ⟨d, e1, q1⟩ := optP_get q1
      obtain ⟨t, e2, q1⟩ := optP_get q1
      obtain ⟨c, q1⟩ := ckP_get q1
      obtain ⟨qt, qf⟩ := brP_get q1
      obtain ⟨F2, s2, S2, r2⟩ := RU.fz S1 r1 e1
      refine ⟨t, tru_rd S2.le (.v r2) e2 c, ?_⟩
      cases t with
      | false => exact ⟨F2, env1, S2, wpE_mono Γ n _ _ _ _ _ _ (qf rfl) (PX.lift (s1.trans s2)) fun u2 env2 q2 v2 F3 H3 s3 S3 r3 => q2 v2 F3 H3 ((s1.trans s2).trans s3) S3 r3⟩
      | true => exact PV.same (qt rfl) (s1.trans s2) S2 r2
    | .And, _, h => cases h
    | .Or, [], h => cases h
    | .Or, [_], h => cases h
  | _ => cases h
theorem snd_not (ok : Ok Γ CT X W cc) (Z : Zt) {a : M} {e : Expr} (h : chkE (n + 1) cc (.notv a) e = true) : PE X e (tE Γ CT X.K W Z (n + 1) (.notv a)) := by
  cases e with
  | UnaryOp o x p =>
    cases o with
    | Not =>
      refine PE.imp (pe_notT (snd_R IH ok Z (m := a) h)) fun σ H Q ⟨F, env, S, q⟩ => ?_
      rw [wpE_succ] at q
      unfold wpE1 at q
      dsimp only at q
      refine ⟨F, env, S, ?_⟩
      refine wpR_mono (wpE_mono Γ n) q (fun _ _ z => z) fun oa env1 q1 v F1 H1 s1 S1 r1 => ?_
      obtain ⟨d, e1, q1⟩ := optP_get q1
      obtain ⟨t, e2, q1⟩ := optP_get q1
      obtain ⟨c, q1⟩ := ckP_get q1
      exact ⟨t, tru_rd S1.le (r1.rd S1 same_refl e1) e2 c, PV.same q1 s1 S1 (.bl _)⟩
    | _ => cases h
  | _ => cases h
/-! tests -/
omit IH in
theorem snd_T (IHs : ∀ k, k ≤ n → SoundE Γ CT k) (ok : Ok Γ CT X W cc) (Z : Zt) : ∀ {k : Nat} {m : M} {e : Expr}, chkT (chkE n cc) k m e = true → PT X e (tT Γ CT X.K W Z n k m)
  | 0, _, _, h => by cases h
  | k + 1, m, e, h => by
    have M := wpE_mono Γ n
    have IH : SoundE Γ CT n := IHs n (Nat.le_refl n)
    by_cases hm : isTN m = false
    · have h' : (chkE n cc m e && !isIfE e) = true := by cases m <;> first | exact h | cases hm
      obtain ⟨h1, h2⟩ := and_split h'
      by_cases hc : ∃ l os rs p, e = .Compare l os rs p
      · obtain ⟨l, os, rs, p, rfl⟩ := hc
        cases n with
        | zero => cases h1
        | succ j =>
          have IHj : SoundE Γ CT j := IHs j (Nat.le_succ j)
          have key : ∀ {σ : L2.St} {H : Hp} {Q : Bool → Hp → Prop}, tT Γ CT X.K W Z (j + 1) (k + 1) m σ H Q → ∃ F env, SR X.K Z F H σ env ∧ ∃ Qf, wpE Γ (j + 1) m env (PX CT X.K W Z σ F) Qf ∧ ∀ r env2 F2 H2, Qf (.v (.bool r)) env2 → Same F F2 → SR X.K Z F2 H2 σ env2 → Q r H2 := by
            intro σ H Q ⟨F, env, S, q⟩
            rw [wpT_leaf hm] at q
            have q' : wpE Γ (j + 1) m env (PX CT X.K W Z σ F) fun u env' => optP u.fz fun d => optP (rdv env' (.d d)) fun d => optP (truD d) fun b => ckP (truC d) (PB X.K Z σ F Q b env') := by
              cases m <;> first | exact q | (cases h1; done)
            refine ⟨F, env, S, _, q', fun r env2 F2 H2 z s2 S2 => ?_⟩
            obtain ⟨d, e1, z⟩ := optP_get z
            cases e1
            obtain ⟨d, e1, z⟩ := optP_get z
            cases e1
            obtain ⟨d, e1, z⟩ := optP_get z
            cases e1
            obtain ⟨_, z⟩ := ckP_get z
            exact z F2 H2 s2 S2
          cases m with
          | cmp op a b =>
            exact PT.imp (snd_cmp IHj ok Z h1).2 fun σ H Q q => key q
          | chain o1 o2 a b c => exact PT.imp (snd_chain IHj ok Z h1).2 fun σ H Q q => key q
          | bi b as => cases b <;> cases h1
          | _ => cases h1
      · refine PT.imp (pt_truth (snd_R IH ok Z h1) fun wh => ?_) fun σ H Q ⟨F, env, S, q⟩ => ⟨F, env, S, ?_⟩
        · cases e with
          | Compare l os rs p => exact absurd ⟨_, _, _, _, rfl⟩ hc
          | IfExp => cases h2
          | BoolOp o xs p =>
            exfalso
            cases n with
            | zero => cases h1
            | succ j => cases m with
              | bi b as => cases b <;> cases h1
              | and_ => cases hm
              | or_ => cases hm
              | _ => cases h1
          | UnaryOp o x p =>
            cases o with
            | Not =>
              exfalso
              cases n with
              | zero => cases h1
              | succ j => cases m with
                | bi b as => cases b <;> cases h1
                | notv => cases hm
                | _ => cases h1
            | _ => rfl
          | _ => rfl
        · rw [wpT_leaf hm] at q
          refine wpR_mono M q (fun _ _ z => z) fun o env1 q1 v F1 H1 s1 S1 r1 => ?_
          obtain ⟨d, e1, q1⟩ := optP_get q1
          obtain ⟨t, e2, q1⟩ := optP_get q1
          obtain ⟨c, q1⟩ := ckP_get q1
          exact ⟨t, tru_rd S1.le (r1.rd S1 same_refl e1) e2 c, q1 F1 H1 s1 S1⟩
    · have rest : ∀ {op : BoolOp} {b : GM.M} {y : Expr} {es : List Expr} {p : Pos}, chkT (chkE n cc) k b (restB op y es p) = true → PW X (.BoolOp op (y :: es) p) (tT Γ CT X.K W Z n k b) := by
        intro op b y es p hb
        cases es with
        | nil => cases op with
          | And => exact pw_and1 (snd_T IHs ok Z hb)
          | Or => exact pw_or1 (snd_T IHs ok Z hb)
        | cons e es =>
          have hp := snd_T IHs ok Z (k := k) hb
          exact ⟨fun wh pins s σ H Q I q => hp.run pins s σ H Q I q⟩
      cases m with
      | notv a =>
        cases e with
        | UnaryOp o x p =>
          cases o with
          | Not =>
            refine PT.imp (pt_not (snd_T IHs ok Z (k := k) (m := a) h)) fun σ H Q ⟨F, env, S, q⟩ => ⟨F, env, S, ?_⟩
            exact wpT_mono M q (fun _ _ z => z) fun b env1 q1 F1 H1 s1 S1 => q1 F1 H1 s1 S1
          | _ => cases h
        | _ => cases h
      | and_ a b =>
        cases e with
        | BoolOp o xs p =>
          match o, xs, h with
          | .And, x :: y :: es, h =>
            obtain ⟨h1, h2⟩ := and_split (show (chkT (chkE n cc) k a x && chkT (chkE n cc) k b (restB .And y es p)) = true from h)
            refine PT.imp (PW.pt (pw_and (snd_T IHs ok Z (k := k) h1) (rest h2))) fun σ H Q ⟨F, env, S, q⟩ => ⟨F, env, S, ?_⟩
            refine wpT_mono M q (fun _ _ z => z) fun c env1 q1 F1 H1 s1 S1 => ?_
            obtain ⟨qt, qf⟩ := brP_get q1
            cases c with
            | true => exact ⟨F1, env1, S1, wpT_mono M (qt rfl) (PX.lift s1) fun d env2 q2 F2 H2 s2 S2 => q2 F2 H2 (s1.trans s2) S2⟩
            | false => exact qf rfl F1 H1 s1 S1
          | .Or, _, h => cases h
          | .And, [], h => cases h
          | .And, [_], h => cases h
        | _ => cases h
      | or_ a b =>
        cases e with
        | BoolOp o xs p =>
          match o, xs, h with
          | .Or, x :: y :: es, h =>
            obtain ⟨h1, h2⟩ := and_split (show (chkT (chkE n cc) k a x && chkT (chkE n cc) k b (restB .Or y es p)) = true from h)
            refine PT.imp (PW.pt (pw_or (snd_T IHs ok Z (k := k) h1) (rest h2))) fun σ H Q ⟨F, env, S, q⟩ => ⟨F, env, S, ?_⟩
            refine wpT_mono M q (fun _ _ z => z) fun c env1 q1 F1 H1 s1 S1 => ?_
            obtain ⟨qt, qf⟩ := brP_get q1
            cases c with
            | false => exact ⟨F1, env1, S1, wpT_mono M (qf rfl) (PX.lift s1) fun d env2 q2 F2 H2 s2 S2 => q2 F2 H2 (s1.trans s2) S2⟩
            | true => exact qt rfl F1 H1 s1 S1
          | .And, _, h => cases h
          | .Or, [], h => cases h
          | .Or, [_], h => cases h
        | _ => cases h
      | _ => exact absurd rfl hm
end
end GM

set_option maxRecDepth 100000
/-! GM: expressions keep what wpE says: calls -/
namespace GM
open PySem PySem.Spec PyProof.Rows L2
theorem pair_get {α β : Type} {R : α → β → Prop} : ∀ {xs : List α} {ys : List β} {i : Nat} {y : β}, Paired R xs ys → ys[i]? = some y → ∃ x, xs[i]? = some x ∧ R x y
  | _, _, _, _, .nil, e => by simp at e
  | _, _, 0, _, .cons h _, e => by simp at e; subst e; exact ⟨_, rfl, h⟩
  | _, _, i + 1, y, .cons _ t, e => by
    obtain ⟨x, h1, h2⟩ := pair_get (i := i) (y := y) t (by simpa using e)
    exact ⟨x, by simpa using h1, h2⟩
theorem argUs_get {env : Env} : ∀ {os : List Op} {us : List U} {i : Nat} {u : U}, argUs env os = some us → us[i]? = some u → ∃ o, os[i]? = some o ∧ argU env o = some u
  | [], us, i, u, h, e => by cases h; simp at e
  | o :: os, us, i, u, h, e => by
    simp only [argUs] at h
    cases q : argU env o with
    | none => rw [q] at h; cases h
    | some d =>
      rw [q] at h
      cases q2 : argUs env os with
      | none => rw [q2] at h; cases h
      | some ds =>
        rw [q2] at h; cases h
        cases i with
        | zero => simp at e; subst e; exact ⟨o, rfl, q⟩
        | succ i =>
          obtain ⟨o', h1, h2⟩ := argUs_get (i := i) q2 (by simpa using e)
          exact ⟨o', by simpa using h1, h2⟩
theorem mem_vars : ∀ {os : List Op} {i k : Nat}, os[i]? = some (.var k) → k ∈ varsOf os
  | [], _, _, e => by simp at e
  | .var j :: os, 0, k, e => by simp at e; subst e; exact List.mem_cons_self
  | .d d :: os, 0, k, e => by simp at e
  | .var j :: os, i + 1, k, e => List.mem_cons_of_mem _ (mem_vars (i := i) (by simpa using e))
  | .d d :: os, i + 1, k, e => mem_vars (os := os) (i := i) (by simpa using e)
theorem vars_at : ∀ {os : List Op} {k : Nat}, k ∈ varsOf os → ∃ i : Nat, os[i]? = some (Op.var k)
  | [], _, h => by cases h
  | .var j :: os, k, h => by
    rcases List.mem_cons.mp h with e | h
    · subst e; exact ⟨0, rfl⟩
    · obtain ⟨i, e⟩ := vars_at h; exact ⟨i + 1, by simpa using e⟩
  | .d d :: os, k, h => by obtain ⟨i, e⟩ := vars_at (os := os) h; exact ⟨i + 1, by simpa using e⟩
theorem nodup_vars : ∀ {os : List Op} {i j k : Nat}, nodupB (varsOf os) = true → os[i]? = some (.var k) → os[j]? = some (.var k) → i = j
  | [], _, _, _, _, e, _ => by simp at e
  | .d d :: os, 0, _, _, _, e, _ => by simp at e
  | .d d :: os, _ + 1, 0, _, _, _, e => by simp at e
  | .d d :: os, i + 1, j + 1, k, h, e1, e2 => by
    have := nodup_vars (os := os) (i := i) (j := j) h (by simpa using e1) (by simpa using e2)
    omega
  | .var a :: os, 0, 0, _, _, _, _ => rfl
  | .var a :: os, 0, j + 1, k, h, e1, e2 => by
    simp at e1
    subst e1
    have m := mem_vars (os := os) (i := j) (by simpa using e2)
    obtain ⟨h1, _⟩ := and_split (show (!((varsOf os).contains a) && nodupB (varsOf os)) = true from h)
    have h1 := not_true h1
    simp at h1
    exact absurd m h1
  | .var a :: os, i + 1, 0, k, h, e1, e2 => by
    simp at e2
    subst e2
    have m := mem_vars (os := os) (i := i) (by simpa using e1)
    obtain ⟨h1, _⟩ := and_split (show (!((varsOf os).contains a) && nodupB (varsOf os)) = true from h)
    have h1 := not_true h1
    simp at h1
    exact absurd m h1
  | .var a :: os, i + 1, j + 1, k, h, e1, e2 => by
    obtain ⟨_, h2⟩ := and_split (show (!((varsOf os).contains a) && nodupB (varsOf os)) = true from h)
    have := nodup_vars (os := os) (i := i) (j := j) h2 (by simpa using e1) (by simpa using e2)
    omega
theorem putR_get_ne {env : Env} {i j : Nat} {u : U} (h : i ≠ j) : get (putR env i u) j = get env j := by
  simp only [putR_eq]; unfold putR0
  split
  · split
    · exact get_put_ne h
    · exact get_put_ne h
    · rfl
  · rfl
theorem putR_length {env : Env} {i : Nat} {u : U} : (putR env i u).length = env.length := by
  simp only [putR_eq]; unfold putR0
  split
  · split
    · exact put_length _ _ _
    · exact put_length _ _ _
    · rfl
  · rfl
theorem putR_congr {env env' : Env} {i : Nat} {u : U} (h : get env i = get env' i) (hl : env.length = env'.length) : get (putR env i u) i = get (putR env' i u) i := by
  simp only [putR_eq]; unfold putR0
  cases u with
  | r xs =>
    dsimp only
    rw [h]
    cases q : get env' i with
    | none => dsimp only; rw [h]
    | some w =>
      have l1 := get_some_lt q
      have l2 : i < env.length := by omega
      cases w <;> dsimp only <;> first
        | rw [get_put_same l1, get_put_same l2]
        | rw [h]
  | _ => exact h
theorem wb_length : ∀ {os : List Op} {us : List U} {env : Env}, (wb env os us).length = env.length
  | [], _, _ => rfl
  | .var _ :: _, [], _ => rfl
  | .d _ :: _, [], _ => rfl
  | .var i :: os, u :: us, env => by show (wb (putR env i u) os us).length = _; rw [wb_length, putR_length]
  | .d _ :: os, _ :: us, env => wb_length (os := os)
theorem wb_out : ∀ {os : List Op} {us : List U} {env : Env} {j : Nat}, j ∉ varsOf os → get (wb env os us) j = get env j
  | [], _, _, _, _ => rfl
  | .var _ :: _, [], _, _, _ => rfl
  | .d _ :: _, [], _, _, _ => rfl
  | .var i :: os, u :: us, env, j, h => by
    show get (wb (putR env i u) os us) j = _
    rw [wb_out (fun z => h (List.mem_cons_of_mem _ z)), putR_get_ne (fun z => h (by rw [z]; exact List.mem_cons_self))]
  | .d _ :: os, _ :: us, env, j, h => wb_out (os := os) h
theorem wb_in : ∀ {os : List Op} {us : List U} {env : Env} {i j : Nat} {u : U}, nodupB (varsOf os) = true → os[i]? = some (.var j) → us[i]? = some u → get (wb env os us) j = get (putR env j u) j
  | [], _, _, _, _, _, _, e, _ => by simp at e
  | .var _ :: _, [], _, _, _, _, _, _, e => by simp at e
  | .d _ :: _, [], _, _, _, _, _, _, e => by simp at e
  | .var a :: os, w :: us, env, 0, j, u, h, e, e2 => by
    simp at e e2
    subst e e2
    obtain ⟨h1, _⟩ := and_split (show (!((varsOf os).contains a) && nodupB (varsOf os)) = true from h)
    have h1 := not_true h1
    simp at h1
    exact wb_out h1
  | .var a :: os, w :: us, env, i + 1, j, u, h, e, e2 => by
    obtain ⟨h1, h2⟩ := and_split (show (!((varsOf os).contains a) && nodupB (varsOf os)) = true from h)
    have m := mem_vars (os := os) (i := i) (k := j) (by simpa using e)
    have ne : a ≠ j := fun z => by
      have h1 := not_true h1
      simp at h1
      exact h1 (z ▸ m)
    show get (wb (putR env a w) os us) j = _
    rw [wb_in (i := i) h2 (by simpa using e) (by simpa using e2)]
    exact putR_congr (putR_get_ne ne) putR_length
  | .d _ :: os, _ :: us, env, 0, j, u, h, e, e2 => by simp at e
  | .d _ :: os, _ :: us, env, i + 1, j, u, h, e, e2 => wb_in (os := os) (i := i) h (by simpa using e) (by simpa using e2)
section
variable {K : PySem.W.Frag} {Z : Zt} {F H F' H' : Hp} {σ : L2.St} {env : Env} {vs : List V} {os : List Op} {us us' : List U}
/-- a lent argument is an own slot -/
theorem ref_slot (S : SR K Z F H σ env) (r : ROs F σ vs os) (e : argUs env os = some us) {i : Nat} {xs : List D} (h : us[i]? = some (.r xs)) : ∃ k a, os[i]? = some (.var k) ∧ vs[i]? = some (.ref a) ∧ σ[k]? = some (some (.ref a)) ∧ Own env k ∧ cellOf env k = some xs := by
  obtain ⟨o, h1, h2⟩ := argUs_get e h
  cases o with
  | d d => cases h2
  | var k =>
    obtain ⟨v, h3, h4⟩ := pair_get r h1
    have h4 : σ[k]? = some (some v) := h4
    simp only [argU] at h2
    cases q : get env k with
    | none => rw [q] at h2; cases h2
    | some u =>
      rw [q] at h2
      cases u with
      | o ys =>
        cases h2
        obtain ⟨a, ws, zs, e1, _⟩ := S.own (.inl ⟨_, q⟩)
        rw [h4] at e1; cases e1
        exact ⟨k, a, h1, h3, h4, .inl ⟨_, q⟩, by unfold cellOf; rw [q]⟩
      | r ys =>
        cases h2
        obtain ⟨a, ws, zs, e1, _⟩ := S.own (.inr ⟨_, q⟩)
        rw [h4] at e1; cases e1
        exact ⟨k, a, h1, h3, h4, .inr ⟨_, q⟩, by unfold cellOf; rw [q]⟩
      | s ns => cases h2
      | v d => cases h2
      | x c fs => cases h2
theorem args_rel (S : SR K Z F H σ env) {P : Hp} (hP : ∀ b o, Z.P b = some o → P b = some o) : ∀ {vs : List V} {os : List Op} {us : List U}, ROs F σ vs os → argUs env os = some us → Paired (ArgR K F H P) vs us
  | _, _, us, .nil, e => by cases e; exact .nil
  | _, _, us, .cons (a := v) (b := o) (l₂ := os) h t, e => by
    simp only [argUs] at e
    cases q : argU env o with
    | none => rw [q] at e; cases e
    | some u =>
      rw [q] at e
      cases q2 : argUs env os with
      | none => rw [q2] at e; cases e
      | some us2 =>
        rw [q2] at e; cases e
        refine .cons ?_ (args_rel S hP t q2)
        cases o with
        | d d => cases q; exact h
        | var k =>
          have h : σ[k]? = some (some v) := h
          simp only [argU] at q
          cases g : get env k with
          | none => rw [g] at q; cases q
          | some w =>
            rw [g] at q
            obtain ⟨v', e1, r⟩ := S.slot k w g
            rw [h] at e1; cases e1
            cases w with
            | o ys => cases q; obtain ⟨a, ws, rfl, k1, k2, k3, _⟩ := r; exact ⟨a, ws, rfl, k1, k2, k3⟩
            | r ys => cases q; obtain ⟨a, ws, rfl, k1, k2, k3, _⟩ := r; exact ⟨a, ws, rfl, k1, k2, k3⟩
            | s ns => cases q; obtain ⟨a, rfl, k1, k2, _⟩ := r; exact ⟨a, rfl, Same.seq hP k1, k2⟩
            | v d => cases q
            | x c fs => cases q
theorem args_apart (S : SR K Z F H σ env) (r : ROs F σ vs os) (e : argUs env os = some us) (nd : nodupB (varsOf os) = true) : Apart vs us := by
  intro i j xs ys a ne h1 h2 h3 h4
  obtain ⟨k, b, o1, v1, s1, own1, _⟩ := ref_slot S r e h1
  obtain ⟨l, c, o2, v2, s2, own2, _⟩ := ref_slot S r e h2
  rw [h3] at v1; cases v1
  rw [h4] at v2; cases v2
  have kl : k ≠ l := fun z => by subst z; exact ne (nodup_vars nd o1 o2)
  exact S.dis k l _ kl own1 own2 s1 s2
theorem prot_keep (S : SR K Z F H σ env) (r : ROs F σ vs os) (e : argUs env os = some us) : ∀ b o, Z.P b = some o → Prot H vs us b = some o := by
  intro b o h
  unfold Prot
  rw [if_neg]
  · exact S.keep _ _ h
  · rintro ⟨i, xs, h1, h2⟩
    obtain ⟨k, a, _, v1, s1, own1, _⟩ := ref_slot S r e h1
    rw [h2] at v1; cases v1
    obtain ⟨a', _, _, e1, _, _, _, e2, _⟩ := S.own own1
    rw [s1] at e1; cases e1
    rw [h] at e2; cases e2
theorem own_wb (S : SR K Z F H σ env) (r : ROs F σ vs os) (e : argUs env os = some us) (nd : nodupB (varsOf os) = true) {j : Nat} (o : Own (wb env os us') j) : Own env j := by
  by_cases hj : j ∈ varsOf os
  · obtain ⟨i, hi⟩ := vars_at hj
    -- its own kind stays
    cases q : us'[i]? with
    | none =>
      -- the list of results is too short: nothing is written
      have : ∀ {os : List Op} {us' : List U} {env : Env} {i : Nat}, nodupB (varsOf os) = true → os[i]? = some (.var j) → us'[i]? = none → get (wb env os us') j = get env j := by
        intro os
        induction os with
        | nil => intro _ _ _ _ e _; simp at e
        | cons o os ih =>
          intro us' env i nd e hn
          cases us' with
          | nil => cases o <;> rfl
          | cons w ws =>
            cases i with
            | zero => simp at hn
            | succ i =>
              cases o with
              | d d => exact ih (i := i) nd (by simpa using e) (by simpa using hn)
              | var a =>
                obtain ⟨h1, h2⟩ := and_split (show (!((varsOf os).contains a) && nodupB (varsOf os)) = true from nd)
                have m := mem_vars (os := os) (i := i) (k := j) (by simpa using e)
                have ne : a ≠ j := fun z => by
                  have h1 := not_true h1
                  simp at h1
                  exact h1 (z ▸ m)
                show get (wb (putR env a w) os ws) j = _
                rw [ih (i := i) h2 (by simpa using e) (by simpa using hn), putR_get_ne ne]
      have g := this (env := env) nd hi q
      rcases o with ⟨xs, h⟩ | ⟨xs, h⟩
      · rw [g] at h; exact .inl ⟨xs, h⟩
      · rw [g] at h; exact .inr ⟨xs, h⟩
    | some u =>
      have g := wb_in (env := env) nd hi q
      have : ∀ {w : U}, get (putR env j u) j = some w → (∃ xs, w = .o xs) ∨ (∃ xs, w = .r xs) → Own env j := by
        intro w hw hk
        rw [putR_eq] at hw; unfold putR0 at hw
        split at hw
        · split at hw
          · exact .inl ⟨_, by assumption⟩
          · exact .inr ⟨_, by assumption⟩
          · rcases hk with ⟨xs, rfl⟩ | ⟨xs, rfl⟩
            · exact .inl ⟨xs, hw⟩
            · exact .inr ⟨xs, hw⟩
        · rcases hk with ⟨xs, rfl⟩ | ⟨xs, rfl⟩
          · exact .inl ⟨xs, hw⟩
          · exact .inr ⟨xs, hw⟩
      rcases o with ⟨xs, h⟩ | ⟨xs, h⟩
      · exact this (g ▸ h) (.inl ⟨xs, rfl⟩)
      · exact this (g ▸ h) (.inr ⟨xs, rfl⟩)
  · rcases o with ⟨xs, h⟩ | ⟨xs, h⟩
    · rw [wb_out hj] at h; exact .inl ⟨xs, h⟩
    · rw [wb_out hj] at h; exact .inr ⟨xs, h⟩
/-- behind a call -/
theorem SR.after (S : SR K Z F H σ env) (r : ROs F σ vs os) (e : argUs env os = some us) (nd : nodupB (varsOf os) = true) (A : After F H F' H' vs us us') : SR K Z F' H' σ (wb env os us') := by
  have notRef : ∀ {j : Nat} {a : Addr}, j ∉ varsOf os → Own env j → σ[j]? = some (some (.ref a)) → ¬ RefAt vs us a := by
    rintro j a hj oj sj ⟨i, xs, h1, h2⟩
    obtain ⟨k, b, o1, v1, s1, own1, _⟩ := ref_slot S r e h1
    rw [h2] at v1; cases v1
    have kj : k ≠ j := fun z => hj (z ▸ mem_vars o1)
    exact S.dis k j _ kj own1 oj s1 sj
  have frozen : ∀ {a : Addr} {o : HO}, H a = some o → F a = none → F' a = none := fun {a o} h1 h2 => by
    cases q : F' a with
    | none => rfl
    | some x =>
      rcases A.new a (by rw [q]; simp) with z | z
      · exact absurd h2 z
      · rw [h1] at z; cases z
  refine ⟨by rw [wb_length]; exact S.len, A.le, fun b o q => ?_, S.base.trans A.f, fun b q => ?_, fun b q => ?_, fun j u q => ?_, fun i j a ne oi oj => ?_, fun j b hb => ?_⟩
  · refine A.keep b o (S.keep _ _ q) ?_
    rintro ⟨i, xs, h1, h2⟩
    obtain ⟨k, a, _, v1, s1, own1, _⟩ := ref_slot S r e h1
    rw [h2] at v1; cases v1
    obtain ⟨a', _, _, e1, _, _, _, e2, _⟩ := S.own own1
    rw [s1] at e1; cases e1
    rw [q] at e2; cases e2
  · rcases A.new b q with z | z
    · exact S.new b z
    · exact .inr ⟨S.dom b z, S.noneP z⟩
  · refine S.dom b ?_
    cases g : H b with
    | none => rfl
    | some o =>
      by_cases hr : RefAt vs us b
      · obtain ⟨i, xs, h1, h2⟩ := hr
        obtain ⟨ys, a, ws, _, h3, h4, _⟩ := A.refs i xs h1
        rw [h2] at h3; cases h3
        rw [q] at h4; cases h4
      · have := A.keep b o g hr
        rw [q] at this; cases this
  · by_cases hj : j ∈ varsOf os
    · obtain ⟨i, hi⟩ := vars_at hj
      obtain ⟨v, hv, hv2⟩ := pair_get r hi
      have hv2 : σ[j]? = some (some v) := hv2
      -- what the argument was
      have hu : ∃ w, us[i]? = some w ∧ argU env (.var j) = some w := by
        have : ∀ {os : List Op} {us : List U} {i : Nat} {o : Op}, argUs env os = some us → os[i]? = some o → ∃ w, us[i]? = some w ∧ argU env o = some w := by
          intro os
          induction os with
          | nil => intro _ _ _ _ e; simp at e
          | cons o os ih =>
            intro us i o' e1 e2
            simp only [argUs] at e1
            cases q : argU env o with
            | none => rw [q] at e1; cases e1
            | some d =>
              rw [q] at e1
              cases q2 : argUs env os with
              | none => rw [q2] at e1; cases e1
              | some ds =>
                rw [q2] at e1; cases e1
                cases i with
                | zero => simp at e2; subst e2; exact ⟨d, rfl, q⟩
                | succ i =>
                  obtain ⟨w, h1, h2⟩ := ih (i := i) q2 (by simpa using e2)
                  exact ⟨w, by simpa using h1, h2⟩
        exact this e hi
      obtain ⟨w, hw, hw2⟩ := hu
      simp only [argU] at hw2
      cases g : get env j with
      | none => rw [g] at hw2; cases hw2
      | some t =>
        rw [g] at hw2
        have lj := get_some_lt g
        obtain ⟨v', e1, rr⟩ := S.slot j t g
        rw [hv2] at e1; cases e1
        cases t with
        | o xs =>
          cases hw2
          obtain ⟨ys, a, ws, k1, k2, k3, k4, k5⟩ := A.refs i xs hw
          rw [hv] at k2; cases k2
          have q2 : get (putR env j (.r ys)) j = some u := by rw [← wb_in nd hi k1]; exact q
          rw [putR_eq] at q2; unfold putR0 at q2
          rw [g] at q2
          dsimp only at q2
          rw [get_put_same lj] at q2
          cases q2
          obtain ⟨b, us2, eb, _, _, _, n1, n2⟩ := rr
          cases eb
          exact ⟨.ref a, hv2, a, ws, rfl, k3, k4, k5, n1, n2⟩
        | r xs =>
          cases hw2
          obtain ⟨ys, a, ws, k1, k2, k3, k4, k5⟩ := A.refs i xs hw
          rw [hv] at k2; cases k2
          have q2 : get (putR env j (.r ys)) j = some u := by rw [← wb_in nd hi k1]; exact q
          rw [putR_eq] at q2; unfold putR0 at q2
          rw [g] at q2
          dsimp only at q2
          rw [get_put_same lj] at q2
          cases q2
          obtain ⟨b, us2, eb, _, _, _, n1, n2⟩ := rr
          cases eb
          exact ⟨.ref a, hv2, a, ws, rfl, k3, k4, k5, n1, n2⟩
        | s ns =>
          have nn : ∀ {u2 : U}, get (putR env j u2) j = get env j := fun {u2} => by
            simp only [putR_eq]; unfold putR0
            split
            · rw [g]
              first | exact g | rfl
            · rfl
          have q3 : get env j = some u := by
            cases z : us'[i]? with
            | some u2 => rw [← nn (u2 := u2), ← wb_in nd hi z]; exact q
            | none =>
              have : ∀ {os : List Op} {us' : List U} {env : Env} {i : Nat}, nodupB (varsOf os) = true → os[i]? = some (.var j) → us'[i]? = none → get (wb env os us') j = get env j := by
                intro os
                induction os with
                | nil => intro _ _ _ _ e _; simp at e
                | cons o os ih =>
                  intro us' env i nd e hn
                  cases us' with
                  | nil => cases o <;> rfl
                  | cons w ws =>
                    cases i with
                    | zero => simp at hn
                    | succ i =>
                      cases o with
                      | d d => exact ih (i := i) nd (by simpa using e) (by simpa using hn)
                      | var a =>
                        obtain ⟨h1, h2⟩ := and_split (show (!((varsOf os).contains a) && nodupB (varsOf os)) = true from nd)
                        have m := mem_vars (os := os) (i := i) (k := j) (by simpa using e)
                        have ne : a ≠ j := fun z => by
                          have h1 := not_true h1
                          simp at h1
                          exact h1 (z ▸ m)
                        show get (wb (putR env a w) os ws) j = _
                        rw [ih (i := i) h2 (by simpa using e) (by simpa using hn), putR_get_ne ne]
              rw [← this nd hi z]; exact q
          rw [g] at q3; cases q3
          exact ⟨v, hv2, rr⟩
        | v d => cases hw2
        | x c fs => cases hw2
    · rw [wb_out hj] at q
      obtain ⟨v, e1, rr⟩ := S.slot j u q
      refine ⟨v, e1, ?_⟩
      cases u with
      | v d => exact Rep.mono A.f rr
      | o xs =>
        obtain ⟨a, ws, rfl, k1, k2, k3, n1, n2⟩ := rr
        exact ⟨a, ws, rfl, A.keep _ _ k1 (notRef hj (.inl ⟨xs, q⟩) e1), frozen k1 k2, k3.mono A.f, n1, n2⟩
      | r xs =>
        obtain ⟨a, ws, rfl, k1, k2, k3, n1, n2⟩ := rr
        exact ⟨a, ws, rfl, A.keep _ _ k1 (notRef hj (.inr ⟨xs, q⟩) e1), frozen k1 k2, k3.mono A.f, n1, n2⟩
      | s ns => exact rr
      | x c fs => exact rr
  · exact S.dis i j a ne (own_wb S r e nd oi) (own_wb S r e nd oj)
  · obtain ⟨⟨xs, g⟩, g2⟩ := S.ref j b hb
    refine ⟨?_, g2⟩
    by_cases hj : j ∈ varsOf os
    · obtain ⟨i, hi⟩ := vars_at hj
      have hu : ∃ i' : Nat, us[i']? = some (U.r xs) ∧ os[i']? = some (Op.var j) := by
        have : ∀ {os : List Op} {us : List U} {i : Nat} {o : Op}, argUs env os = some us → os[i]? = some o → ∃ w, us[i]? = some w ∧ argU env o = some w := by
          intro os
          induction os with
          | nil => intro _ _ _ _ e; simp at e
          | cons o os ih =>
            intro us i o' e1 e2
            simp only [argUs] at e1
            cases q : argU env o with
            | none => rw [q] at e1; cases e1
            | some d =>
              rw [q] at e1
              cases q2 : argUs env os with
              | none => rw [q2] at e1; cases e1
              | some ds =>
                rw [q2] at e1; cases e1
                cases i with
                | zero => simp at e2; subst e2; exact ⟨d, rfl, q⟩
                | succ i =>
                  obtain ⟨w, h1, h2⟩ := ih (i := i) q2 (by simpa using e2)
                  exact ⟨w, by simpa using h1, h2⟩
        obtain ⟨w, h1, h2⟩ := this e hi
        simp only [argU] at h2
        rw [g] at h2
        cases h2
        exact ⟨i, h1, hi⟩
      obtain ⟨i', hw, hi'⟩ := hu
      obtain ⟨ys, a, ws, k1, _⟩ := A.refs i' xs hw
      rw [wb_in nd hi' k1]
      simp only [putR_eq]; unfold putR0
      rw [g]
      exact ⟨ys, get_put_same (get_some_lt g)⟩
    · rw [wb_out hj]; exact ⟨xs, g⟩
end
section
variable {Γ : Nat → Option FS} {CT : CTab} {X : Cx} {W : WX} {cc : CC} {Z : Zt} {n : Nat}
/-- a call's promise is asked -/
theorem call_read {K : PySem.W.Frag} {σ : L2.St} {F F1 H1 : Hp} {env1 : Env} {vs : List V} {os : List Op} {S : FS} {Q : VK} {us : List U} (S1 : SR K Z F1 H1 σ env1) (s1 : Same F F1) (r1 : ROs F1 σ vs os) (e : argUs env1 os = some us) (nd : nodupB (varsOf os) = true)
    (q : ∃ a : S.α, us = S.args a ∧ S.pre a ∧ (∀ r us', S.post a r us' → PV K Z σ F Q r (wb env1 os us')) ∧ ∀ x us', S.exc a x us' → PX CT K W Z σ F x (wb env1 os us')) : spOf K CT S vs H1 Q (L2.WE W σ) := by
  obtain ⟨a, rfl, p, q1, q2⟩ := q
  refine ⟨a, F1, S1.le, args_rel S1 (prot_keep S1 r1 e) r1 e, args_apart S1 r1 e nd, p, fun r us' v F' H' h A rn => ?_, fun x us' cls d F' H' h A xr => ?_⟩
  · have S2 := S1.after r1 e nd A
    refine q1 r us' h v F' H' (s1.trans A.f) S2 ?_
    cases r with
    | v d => exact rn
    | o xs =>
      obtain ⟨b, ws, rfl, h1, h2, h3, h4⟩ := rn
      refine ⟨b, ws, rfl, h2, h3, h4, S1.dom b h1, S1.noneP h1, fun i o z => ?_⟩
      obtain ⟨a', ws', xs', e1, e2, _⟩ := S1.own (own_wb S1 r1 e nd o)
      rw [z] at e1; cases e1; rw [h1] at e2; cases e2
    | r xs => exact rn
    | s ns => exact rn
    | x c fs => exact rn
  · exact q2 x us' h cls d F' H' (s1.trans A.f) (S1.after r1 e nd A) xr
theorem snd_call (IH : SoundE Γ CT n) (ok : Ok Γ CT X W cc) (Z : Zt) {f : Nat} {as : List M} {e : Expr} (h : chkE (n + 1) cc (.call f as) e = true) : PE X e (tE Γ CT X.K W Z (n + 1) (.call f as)) := by
  cases e with
  | Call g es kws p =>
    cases g with
    | Name x xp =>
      cases kws with
      | cons k ks => cases h
      | nil =>
        obtain ⟨h, h3⟩ := and_split (show (decide (cc.fns[f]? = some x) && gloB cc x && chkA cc (chkE n cc) as es) = true from h)
        obtain ⟨h1, h2⟩ := and_split h
        obtain ⟨g, gd⟩ := ok.gl h2
        cases hf : Γ f with
        | none =>
          obtain ⟨S, z⟩ := ok.full f x (of_decide_eq_true h1)
          rw [hf] at z; cases z
        | some S =>
          obtain ⟨x', fa, fd, ps, k, hx, hm, hk, hb, hF, hr, _⟩ := (ok.fns f S hf).ex
          rw [of_decide_eq_true h1] at hx
          cases hx
          have read : ∀ σ H Q, tE Γ CT X.K W Z (n + 1) (.call f as) σ H Q → tAs Γ CT X.K W Z n as σ H fun vs H1 => spOf X.K CT S vs H1 Q (L2.WE W σ) := by
            rintro σ H Q ⟨F, env, S0, q⟩
            rw [wpE_succ] at q
            unfold wpE1 at q
            dsimp only at q
            refine ⟨F, env, S0, wpAs_mono (wpE_mono Γ n) q (fun _ _ z => z) fun os env1 q1 vs F1 H1 s1 S1 r1 => ?_⟩
            obtain ⟨us, e1, q1⟩ := optP_get q1
            obtain ⟨nd, q1⟩ := ckP_get q1
            obtain ⟨S', e2, q1⟩ := callP_get q1
            rw [hf] at e2
            cases e2
            obtain ⟨a0, ea, pa, qa, qx⟩ := q1
            exact call_read S1 s1 r1 e1 nd ⟨a0, ea, pa, fun r us' h => envP_get (qa r us' h), qx⟩
          cases es with
          | nil =>
            cases as with
            | cons m ms => cases m <;> cases h3
            | nil =>
              refine ⟨fun pins s σ H Q I q => ?_⟩
              obtain ⟨F, env, S0, q⟩ := read σ H Q q
              have q2 := q [] F H same_refl S0 .nil
              exact wpAny_Call_Name_kw (ld_glob I g hm (PySem.W.callWith_K0 I.kIn hk (run_fnS (us := []) hF hr hb (passAt ok.tk σ) I .nil q2)) gd)
          | cons e1 es =>
            obtain ⟨st1, st2⟩ := star_first (fun m e he es => chk_star he [] es _) h3
            exact PE.imp (pe_callS hF hr g hm hk hb (fun σ => passAt ok.tk σ) (snd_As IH ok Z h3) gd st1 (st2 _)) read
    | _ => cases h
  | _ => cases h
end
end GM

set_option maxRecDepth 100000
/-! GM: calls with keywords -/
namespace GM
open PySem PySem.Spec PyProof.Rows L2
theorem perm_pair {α β : Type} {R : α → β → Prop} {xs : List α} {ys : List β} (h : Paired R xs ys) : ∀ {perm : List Nat} {zs : List β}, perm.mapM (fun k => ys[k]?) = some zs → Paired R (perm.filterMap fun k => xs[k]?) zs
  | [], zs, e => by
    have e : zs = [] := by simpa using e.symm
    subst e
    exact .nil
  | k :: ks, zs, e => by
    rw [List.mapM_cons] at e
    cases q : ys[k]? with
    | none => rw [q] at e; cases e
    | some y =>
      rw [q] at e
      cases q2 : ks.mapM (fun k => ys[k]?) with
      | none => rw [q2] at e; cases e
      | some zs' =>
        rw [q2] at e
        cases e
        obtain ⟨x, h1, h2⟩ := pair_get h q
        rw [List.filterMap_cons, h1]
        exact .cons h2 (perm_pair h q2)
theorem pair_app {α β : Type} {R : α → β → Prop} : ∀ {xs : List α} {ys : List β} {xs2 : List α} {ys2 : List β}, Paired R xs ys → Paired R xs2 ys2 → Paired R (xs ++ xs2) (ys ++ ys2)
  | _, _, _, _, .nil, h => h
  | _, _, _, _, .cons a t, h => .cons a (pair_app t h)
theorem vals_get : ∀ {xs : List V} {us : List Value} {k : Nat}, Vals xs us → (xs[k]? = none ∧ us[k]? = none) ∨ ∃ x u, xs[k]? = some x ∧ us[k]? = some u ∧ RelV x u
  | _, _, _, .nil => .inl ⟨by simp, by simp⟩
  | _, _, 0, .cons r _ => .inr ⟨_, _, rfl, rfl, r⟩
  | _, _, k + 1, .cons _ t => by
    rcases vals_get (k := k) t with ⟨a, b⟩ | ⟨x, u, a, b, r⟩
    · exact .inl ⟨by simpa using a, by simpa using b⟩
    · exact .inr ⟨x, u, by simpa using a, by simpa using b, r⟩
theorem vals_perm {xs : List V} {us : List Value} (h : Vals xs us) : ∀ perm : List Nat, Vals (perm.filterMap fun k => xs[k]?) (perm.filterMap fun k => us[k]?)
  | [] => .nil
  | k :: ks => by
    rcases vals_get (k := k) h with ⟨a, b⟩ | ⟨x, u, a, b, r⟩
    · rw [List.filterMap_cons, List.filterMap_cons, a, b]; exact vals_perm h ks
    · rw [List.filterMap_cons, List.filterMap_cons, a, b]; exact .cons r (vals_perm h ks)
theorem PK.imp {X : Cx} {es : List Keyword} {t t' : TA} (h : PK X es t) (f : ∀ σ H Q, t' σ H Q → t σ H Q) : PK X es t' := ⟨fun pos pins s σ H Q I q => h.run pos pins s σ H Q I (f _ _ _ q)⟩
section
variable {Γ : Nat → Option FS} {CT : CTab} {X : Cx} {W : WX} {cc : CC} {Z : Zt} {n : Nat} (IH : SoundE Γ CT n)
include IH
theorem snd_Ks (ok : Ok Γ CT X W cc) (Z : Zt) : ∀ {ms : List M} {kws : List Keyword}, chkA cc (chkE n cc) ms (kws.map (·.value)) = true → PK X kws (tAs Γ CT X.K W Z n ms)
  | [], [], _ => PK.imp pk_nil fun σ H Q ⟨F, env, S, q⟩ => q [] F H same_refl S .nil
  | m :: ms, ⟨nm, e, kp⟩ :: es, h => by
    have M := wpE_mono Γ n
    have h : chkA cc (chkE n cc) (m :: ms) (e :: es.map (·.value)) = true := h
    by_cases hv : ∃ i, m = .refv i
    · obtain ⟨i, rfl⟩ := hv
      cases e with
      | Name x p =>
        obtain ⟨h1, h2⟩ := and_split (show (nameB cc i x && chkA cc (chkE n cc) ms (es.map (·.value))) = true from h)
        refine PK.imp (pk_cons (pe_name ok h1) (snd_Ks ok Z h2)) fun σ H Q ⟨F, env, S, q⟩ => ?_
        obtain ⟨u, e1, q⟩ := optP_get q
        obtain ⟨v, e2, _⟩ := S.slot i u e1
        refine ⟨v, e2, F, env, S, wpAs_mono M q (fun _ _ z => z) fun os env2 q2 vs F2 H2 s2 S2 r2 => ?_⟩
        exact q2 (v :: vs) F2 H2 s2 S2 (.cons e2 r2)
      | _ =>
        have h' : (chkE n cc (.refv i) _ && chkA cc (chkE n cc) ms (es.map (·.value))) = true := h
        obtain ⟨h1, _⟩ := and_split h'
        cases n <;> cases h1
    · have h' : (chkE n cc m e && chkA cc (chkE n cc) ms (es.map (·.value))) = true := by
        cases m <;> first | exact h | exact absurd ⟨_, rfl⟩ hv
      obtain ⟨h1, h2⟩ := and_split h'
      refine PK.imp (pk_cons (IH cc X W ok Z m e h1) (snd_Ks ok Z h2)) fun σ H Q ⟨F, env, S, q⟩ => ⟨F, env, S, ?_⟩
      have q' : wpE Γ n m env (PX CT X.K W Z σ F) fun u env1 => optP u.fz fun d => wpAs (wpE Γ n) ms env1 (PX CT X.K W Z σ F) fun os env2 => ∀ vs F' H', Same F F' → SR X.K Z F' H' σ env2 → ROs F' σ vs (.d d :: os) → Q vs H' := by
        cases m <;> first | exact q | exact absurd ⟨_, rfl⟩ hv
      refine M _ _ _ _ _ _ q' (fun _ _ z => z) fun u env1 q1 v F1 H1 s1 S1 r1 => ?_
      obtain ⟨d, e1, q1⟩ := optP_get q1
      obtain ⟨F2, s2, S2, r2⟩ := RU.fz S1 r1 e1
      refine ⟨F2, env1, S2, wpAs_mono M q1 (PX.lift (s1.trans s2)) fun ds env2 q2 vs F3 H3 s3 S3 r3 => ?_⟩
      exact q2 (v :: vs) F3 H3 ((s1.trans s2).trans s3) S3 (.cons (r2.mono s3) r3)
  | [], _ :: _, h => by cases h
  | m :: _, [], h => by cases m <;> cases h
omit IH in
theorem wpAs_len {rec : WE} (MR : MonoE rec) : ∀ {ms : List M} {env : Env} {Qx : QX} {Q : List Op → Env → Prop}, wpAs rec ms env Qx Q → wpAs rec ms env Qx fun ds e => ds.length = ms.length ∧ Q ds e
  | [], _, _, _, h => ⟨rfl, h⟩
  | m :: ms, env, Qx, Q, h => by
    by_cases hv : ∃ i, m = .refv i
    · obtain ⟨i, rfl⟩ := hv
      exact optP_mono h fun _ h2 => wpAs_mono MR (wpAs_len MR h2) (fun _ _ z => z) fun _ _ ⟨e, q⟩ => ⟨by simp [e], q⟩
    · have q' : rec m env Qx fun u env1 => optP u.fz fun d => wpAs rec ms env1 Qx fun os env2 => Q (.d d :: os) env2 := by
        cases m <;> first | exact h | exact absurd ⟨_, rfl⟩ hv
      have r : rec m env Qx fun u env1 => optP u.fz fun d => wpAs rec ms env1 Qx fun os env2 => (Op.d d :: os).length = (m :: ms).length ∧ Q (.d d :: os) env2 :=
        MR _ _ _ _ _ _ q' (fun _ _ z => z) fun _ _ h1 => optP_mono h1 fun _ h2 => wpAs_mono MR (wpAs_len MR h2) (fun _ _ z => z) fun _ _ ⟨e, q⟩ => ⟨by simp [e], q⟩
      cases m <;> first | exact r | exact absurd ⟨_, rfl⟩ hv
omit IH in
theorem chkA_len {rec : M → Expr → Bool} : ∀ {ms : List M} {es : List Expr}, chkA cc rec ms es = true → ms.length = es.length
  | [], [], _ => rfl
  | m :: ms, e :: es, h => by
    have h2 : chkA cc rec ms es = true := by
      cases m <;> first | exact (and_split h).2 | (cases e <;> exact (and_split h).2)
    simp [chkA_len h2]
  | [], _ :: _, h => by cases h
  | m :: _, [], h => by cases m <;> cases h
theorem snd_callk (ok : Ok Γ CT X W cc) (Z : Zt) {f : Nat} {as ks : List M} {perm : List Nat} {e : Expr} (h : chkE (n + 1) cc (.callk f as ks perm) e = true) : PE X e (tE Γ CT X.K W Z (n + 1) (.callk f as ks perm)) := by
  cases e with
  | Call g es kws p =>
    cases g with
    | Name x xp =>
      obtain ⟨h, h6⟩ := and_split (show (decide (cc.fns[f]? = some x) && gloB cc x && chkA cc (chkE n cc) as es && chkA cc (chkE n cc) ks (kws.map (·.value)) && kws.all (·.arg.isSome) && decide ((f, es.length, kws.filterMap (·.arg), perm) ∈ cc.pats)) = true from h)
      obtain ⟨h, h5⟩ := and_split h
      obtain ⟨h, h4⟩ := and_split h
      obtain ⟨h, h3⟩ := and_split h
      obtain ⟨h1, h2⟩ := and_split h
      obtain ⟨g, gd⟩ := ok.gl h2
      cases hf : Γ f with
      | none =>
        obtain ⟨S, z⟩ := ok.full f x (of_decide_eq_true h1)
        rw [hf] at z; cases z
      | some S =>
        obtain ⟨x', fa, fd, ps, k, hx, hm, hk, hb, hF, hr, hkb⟩ := (ok.fns f S hf).ex
        rw [of_decide_eq_true h1] at hx
        cases hx
        have kb := hkb _ (of_decide_eq_true h6) rfl
        have M := wpE_mono Γ n
        have read : ∀ σ H Q, tE Γ CT X.K W Z (n + 1) (.callk f as ks perm) σ H Q → tAs Γ CT X.K W Z n as σ H fun vs H1 => tAs Γ CT X.K W Z n ks σ H1 fun zs H2 => vs.length = es.length ∧ zs.length = kws.length ∧ spOf X.K CT S (perm.filterMap fun k => (vs ++ zs)[k]?) H2 Q (L2.WE W σ) := by
          rintro σ H Q ⟨F, env, S0, q⟩
          rw [wpE_succ] at q
          unfold wpE1 at q
          dsimp only at q
          refine ⟨F, env, S0, wpAs_mono M (wpAs_len M q) (fun _ _ z => z) fun os env1 ⟨l1, q1⟩ vs F1 H1 s1 S1 r1 => ?_⟩
          refine ⟨F1, env1, S1, wpAs_mono M (wpAs_len M q1) (PX.lift s1) fun os2 env2 ⟨l2, q2⟩ zs F2 H2 s2 S2 r2 => ?_⟩
          obtain ⟨os3, e3, q3⟩ := optP_get q2
          obtain ⟨us, e1, q4⟩ := optP_get q3
          obtain ⟨nd, q5⟩ := ckP_get q4
          obtain ⟨S', e2, q6⟩ := callP_get q5
          rw [hf] at e2
          cases e2
          have lv : vs.length = os.length := by
            have : ∀ {xs : List V} {ys : List Op} {R : V → Op → Prop}, Paired R xs ys → xs.length = ys.length := by
              intro xs ys R h
              induction h with
              | nil => rfl
              | cons _ _ ih => simp [ih]
            exact this r1
          have lz : zs.length = os2.length := by
            have : ∀ {xs : List V} {ys : List Op} {R : V → Op → Prop}, Paired R xs ys → xs.length = ys.length := by
              intro xs ys R h
              induction h with
              | nil => rfl
              | cons _ _ ih => simp [ih]
            exact this r2
          have r3 := perm_pair (pair_app (ROs.mono s2 r1) r2) e3
          refine ⟨by rw [lv, l1, chkA_len h3], by rw [lz, l2, chkA_len h4, List.length_map], ?_⟩
          obtain ⟨a0, ea, pa, qa, qx⟩ := q6
          exact call_read S2 (s1.trans s2) r3 e1 nd ⟨a0, ea, pa, fun r us' h => envP_get (qa r us' h), qx⟩
        have named : (backToKw p (keywordEach kws X.env)).all (·.1.isSome) = true ∧ (backToKw p (keywordEach kws X.env)).filterMap (·.1) = kws.filterMap (·.arg) ∧ (backToKw p (keywordEach kws X.env)).any (·.1.isNone) = false := by
          have : ∀ {kws : List Keyword}, kws.all (·.arg.isSome) = true → (backToKw p (keywordEach kws X.env)).all (·.1.isSome) = true ∧ (backToKw p (keywordEach kws X.env)).filterMap (·.1) = kws.filterMap (·.arg) ∧ (backToKw p (keywordEach kws X.env)).any (·.1.isNone) = false := by
            intro kws
            induction kws with
            | nil => intro _; exact ⟨rfl, rfl, rfl⟩
            | cons kw kws ih =>
              intro h
              obtain ⟨nm, v, kp⟩ := kw
              obtain ⟨a, b⟩ := and_split (show ((nm.isSome) && kws.all (·.arg.isSome)) = true from h)
              obtain ⟨i1, i2, i3⟩ := ih b
              cases nm with
              | none => cases a
              | some nm =>
                unfold backToKw at i1 i2 i3 ⊢
                unfold keywordEach
                refine ⟨?_, ?_, ?_⟩
                · rw [List.map_cons, List.all_cons, i1]; rfl
                · rw [List.map_cons, List.filterMap_cons, List.filterMap_cons, i2]
                · rw [List.map_cons, List.any_cons, i3]; rfl
          exact this h5
        have kl : kws.length = (kws.filterMap (·.arg)).length := by
          have : ∀ {kws : List Keyword}, kws.all (·.arg.isSome) = true → kws.length = (kws.filterMap (·.arg)).length := by
            intro kws
            induction kws with
            | nil => intro _; rfl
            | cons kw kws ih =>
              intro h
              obtain ⟨nm, v, kp⟩ := kw
              obtain ⟨a, b⟩ := and_split (show ((nm.isSome) && kws.all (·.arg.isSome)) = true from h)
              cases nm with
              | none => cases a
              | some nm => rw [List.filterMap_cons]; simp [ih b]
          exact this h5
        -- the callee runs
        have go : ∀ {pins : List (Addr × Obj)} {s : Shared} {σ : L2.St} {H : Hp} {Q : VK} {us ws : List Value} {vs zs : List V}, Inv X pins σ H s → Vals vs us → Vals zs ws → vs.length = es.length → zs.length = kws.length → spOf X.K CT S (perm.filterMap fun k => (vs ++ zs)[k]?) H Q (L2.WE W σ) →
            wpAny (model X.prog X.w) X.A (call (.ref fa) us ((kws.filterMap (·.arg)).zip ws)) (EP X pins σ Q) X.xe s := by
          intro pins s σ H Q us ws vs zs I r rz lv lz hs
          have r2 := vals_perm (r.append rz) perm
          have b := kb s us ws I.kIn (by rw [← r.length]; exact lv) (by rw [← rz.length, lz]; exact kl)
          refine wpAny_call (codeAny_mono (hF.run X.A X.stack s H _ _ _ Q _ hr I.env0 b r2 hs) fun r s' hq => ?_)
          cases r with
          | error e => exact passAt ok.tk σ pins H s e s' I hq
          | ok fl =>
            cases fl with
            | ret u => exact I.after hq
            | next => exact False.elim hq
            | brk => exact False.elim hq
            | cont => exact False.elim hq
        have pk := snd_Ks IH ok Z h4
        refine ⟨fun pins s σ H Q I q => ?_⟩
        have q := read σ H Q q
        refine wpAny_Call_Name_kw (ld_glob I g hm ?_ gd)
        cases es with
        | nil =>
          cases as with
          | cons m ms => cases m <;> cases h3
          | nil =>
            obtain ⟨F, env, S0, q⟩ := q
            have q2 := q [] F H same_refl S0 .nil
            refine PySem.W.callWith_KW0 (h₀ := X.base) I.ok.mod.kin hk named.1 (thn (pk.run p pins s σ H _ I q2) fun ws s2 ⟨zs, H2, I2, rz, lv, lz, q3⟩ => ⟨I2.kIn, ?_⟩) ?_
            · rw [named.2.1]
              exact go I2 .nil rz lv lz q3
            · rw [named.2.2]; rfl
        | cons e1 es =>
          obtain ⟨st1, st2⟩ := star_first (fun m e he es => chk_star he [] es _) h3
          refine PySem.W.callWith_KW (h₀ := X.base) I.ok.mod.kin hk named.1 (thn ((snd_As IH ok Z h3).run p pins s σ H _ I q) fun us s1 ⟨vs, H1, I1, r1, q1⟩ => ?_) ?_ st1
          · refine thn (pk.run p pins s1 σ H1 _ I1 q1) fun ws s2 ⟨zs, H2, I2, rz, lv, lz, q3⟩ => ⟨I2.kIn, ?_⟩
            rw [named.2.1]
            exact go I2 r1 rz lv lz q3
          · rw [named.2.2, st1]
            show ((false || (backTo p (starEach es X.env)).any (·.1)) || false) = false
            rw [st2 p]; rfl
    | _ => cases h
  | _ => cases h
end
end GM

set_option maxRecDepth 100000
/-! GM: expressions keep what wpE says: displays, built-ins, methods, comprehensions -/
namespace GM
open PySem PySem.Spec PyProof.Rows L2
section
variable {Γ : Nat → Option FS} {CT : CTab} {X : Cx} {W : WX} {cc : CC} {Z : Zt} {n : Nat}
theorem snd_ife (IHs : ∀ k, k ≤ n → SoundE Γ CT k) (ok : Ok Γ CT X W cc) (Z : Zt) {c a b : M} {e : Expr} (h : chkE (n + 1) cc (.ife c a b) e = true) : PE X e (tE Γ CT X.K W Z (n + 1) (.ife c a b)) := by
  have IH := IHs n (Nat.le_refl n)
  cases e with
  | IfExp t x y p =>
    obtain ⟨h, h3⟩ := and_split (show (chkT (chkE n cc) n c t && chkE n cc a x && chkE n cc b y) = true from h)
    obtain ⟨h1, h2⟩ := and_split h
    refine PE.imp (pe_ifExp (snd_T IHs ok Z h1) (IH cc X W ok Z a x h2) (IH cc X W ok Z b y h3)) fun σ H Q ⟨F, env, S, q⟩ => ?_
    rw [wpE_succ] at q
    unfold wpE1 at q
    dsimp only at q
    refine ⟨F, env, S, wpT_mono (wpE_mono Γ n) q (fun _ _ z => z) fun t env1 q1 F1 H1 s1 S1 => ?_⟩
    obtain ⟨qt, qf⟩ := brP_get q1
    cases t with
    | true => exact ⟨F1, env1, S1, wpE_mono Γ n _ _ _ _ _ _ (qt rfl) (PX.lift s1) fun u2 env2 q2 v2 F3 H3 s3 S3 r3 => q2 v2 F3 H3 (s1.trans s3) S3 r3⟩
    | false => exact ⟨F1, env1, S1, wpE_mono Γ n _ _ _ _ _ _ (qf rfl) (PX.lift s1) fun u2 env2 q2 v2 F3 H3 s3 S3 r3 => q2 v2 F3 H3 (s1.trans s3) S3 r3⟩
  | _ => cases h
variable (IH : SoundE Γ CT n)
include IH
theorem snd_tup (ok : Ok Γ CT X W cc) (Z : Zt) {ms : List M} {e : Expr} (h : chkE (n + 1) cc (.tup ms) e = true) : PE X e (tE Γ CT X.K W Z (n + 1) (.tup ms)) := by
  cases e with
  | Tuple es k p =>
    obtain ⟨h1, h2⟩ := and_split (show (chkL (chkE n cc) ms es && decide (es.length ≤ LIM)) = true from h)
    have hl := chkL_len h1
    have hz := of_decide_eq_true h2
    refine PE.imp (pe_tup (snd_Vs IH ok Z h1)) fun σ H Q ⟨F, env, S, q⟩ => ?_
    rw [wpE_succ] at q
    unfold wpE1 at q
    dsimp only at q
    refine ⟨F, env, S, wpVs_mono (wpE_mono Γ n) (wpVs_len (wpE_mono Γ n) q) (fun _ _ z => z) fun ds env1 ⟨el, q1⟩ vs F1 H1 s1 S1 r1 => ⟨plus_len (r1.length.trans (el.trans hl)) hz, fun p hp => ?_⟩⟩
    exact q1.done s1 S1 _ _ _ (Grow.froz S1.le hp) (.tup upd_same (r1.mono (same_upd (S1.noneF hp))))
  | _ => cases h
theorem snd_lst (ok : Ok Γ CT X W cc) (Z : Zt) {ms : List M} {e : Expr} (h : chkE (n + 1) cc (.lst ms) e = true) : PE X e (tE Γ CT X.K W Z (n + 1) (.lst ms)) := by
  cases e with
  | List es p =>
    obtain ⟨h1, h2⟩ := and_split (show (chkL (chkE n cc) ms es && decide (es.length ≤ LIM)) = true from h)
    have hl := chkL_len h1
    have hz := of_decide_eq_true h2
    refine PE.imp (pe_lst (snd_Vs IH ok Z h1)) fun σ H Q ⟨F, env, S, q⟩ => ?_
    rw [wpE_succ] at q
    unfold wpE1 at q
    dsimp only at q
    refine ⟨F, env, S, wpVs_mono (wpE_mono Γ n) (wpVs_len (wpE_mono Γ n) q) (fun _ _ z => z) fun ds env1 ⟨el, q1⟩ vs F1 H1 s1 S1 r1 => ⟨plus_len (r1.length.trans (el.trans hl)) hz, fun p hp => ?_⟩⟩
    exact q1.done s1 S1 _ _ _ (Grow.own S1.le hp) ⟨p, _, rfl, hp, upd_same, S1.noneF hp, r1⟩
  | _ => cases h
theorem snd_idx (ok : Ok Γ CT X W cc) (Z : Zt) {a i : M} {e : Expr} (h : chkE (n + 1) cc (.idx a i) e = true) : PE X e (tE Γ CT X.K W Z (n + 1) (.idx a i)) := by
  cases e with
  | Subscript x y p =>
    have hy : (∀ l u s q, y ≠ .Slice l u s q) ∧ (chkE n cc a x && chkE n cc i y) = true := by
      cases y <;> first | exact ⟨fun _ _ _ _ z => (by cases z), h⟩ | cases h
    obtain ⟨h1, h2⟩ := and_split hy.2
    refine PE.imp (pe_ix ix_D (snd_R IH ok Z h1) (snd_R IH ok Z h2) (plain_ix hy.1)) fun σ H Q ⟨F, env, S, q⟩ => ?_
    rw [wpE_succ] at q
    unfold wpE1 at q
    dsimp only at q
    refine two_R IH (op := .add) Z S q fun oa ob env2 x y F2 H2 q2 s2 S2 r1 r2 => ?_
    obtain ⟨dx, ex, q2⟩ := optP_get q2
    obtain ⟨dy, ey, q2⟩ := optP_get q2
    obtain ⟨r, er, q2⟩ := optP_get q2
    exact ⟨F2, dx, dy, r, S2.le, r1.rd S2 same_refl ex, r2.rd S2 same_refl ey, er, fun v rv => PV.same q2 s2 S2 rv⟩
  | _ => cases h
/-- a part of a slice -/
theorem snd_P (ok : Ok Γ CT X W cc) (Z : Zt) {o : Option M} {oe : Option Expr} (h : chkO (chkE n cc) o oe = true) :
    L2.PO X oe (fun σ H Q => ∃ F env, SR X.K Z F H σ env ∧ wpE.wpP (wpE Γ n) o env (PX CT X.K W Z σ F) fun i env' => ∀ F' H', Same F F' → SR X.K Z F' H' σ env' → Q i H') := by
  cases o with
  | none =>
    cases oe with
    | none => exact ⟨fun pins s σ H Q I ⟨F, env, S, q⟩ => po_none.run pins s σ H Q I (q F H same_refl S)⟩
    | some e => cases h
  | some m =>
    cases oe with
    | none => cases h
    | some e =>
      refine ⟨fun pins s σ H Q I ⟨F, env, S, q⟩ => (po_some (snd_R IH ok Z (m := m) h)).run pins s σ H Q I ⟨F, env, S, ?_⟩⟩
      unfold wpE.wpP at q
      dsimp only at q
      refine wpR_mono (wpE_mono Γ n) q (fun _ _ z => z) fun ob env1 q1 v F1 H1 s1 S1 r1 => ?_
      obtain ⟨d, e1, q1⟩ := optP_get q1
      obtain ⟨i, e2, q2⟩ := optP_get q1
      have rr := r1.rd S1 same_refl e1
      have ed : d = .int i := by cases d <;> first | (cases e2; rfl) | cases e2
      subst ed
      exact ⟨i, rr.int, q2 F1 H1 s1 S1⟩
theorem snd_slc (ok : Ok Γ CT X W cc) (Z : Zt) {a : M} {lo hi : Option M} {e : Expr} (h : chkE (n + 1) cc (.slc a lo hi) e = true) : PE X e (tE Γ CT X.K W Z (n + 1) (.slc a lo hi)) := by
  cases e with
  | Subscript x y p =>
    cases y with
    | Slice l u s q =>
      cases s with
      | some s => cases h
      | none =>
        obtain ⟨h, h3⟩ := and_split (show (chkE n cc a x && chkO (chkE n cc) lo l && chkO (chkE n cc) hi u) = true from h)
        obtain ⟨h1, h2⟩ := and_split h
        refine PE.imp (pe_slice (sl_D.or sl_S) (snd_R IH ok Z h1) (snd_P IH ok Z h2) (snd_P IH ok Z h3)) fun σ H Q ⟨F, env, S, q⟩ => ?_
        rw [wpE_succ] at q
        unfold wpE1 at q
        dsimp only at q
        have plain : wpE.wpSl (wpE Γ n) a lo hi env (PX CT X.K W Z σ F) (PV X.K Z σ F Q) → tSl (fun x lo hi H Q => rSlc x lo hi H Q ∨ rSlcS X.K x lo hi H Q) (tR Γ CT X.K W Z n a)
            (fun σ H Q => ∃ F env, SR X.K Z F H σ env ∧ wpE.wpP (wpE Γ n) lo env (PX CT X.K W Z σ F) fun i env' => ∀ F' H', Same F F' → SR X.K Z F' H' σ env' → Q i H')
            (fun σ H Q => ∃ F env, SR X.K Z F H σ env ∧ wpE.wpP (wpE Γ n) hi env (PX CT X.K W Z σ F) fun i env' => ∀ F' H', Same F F' → SR X.K Z F' H' σ env' → Q i H') σ H Q := fun q => by
          unfold wpE.wpSl at q
          have M := wpE_mono Γ n
          refine ⟨F, env, S, wpR_mono M q (fun _ _ z => z) fun oa env1 q1 v F1 H1 s1 S1 r1 => ?_⟩
          refine ⟨F1, env1, S1, wpP_mono M q1 (PX.lift s1) fun li env2 q2 F2 H2 s2 S2 => ?_⟩
          refine ⟨F2, env2, S2, wpP_mono M q2 (PX.lift (s1.trans s2)) fun ui env3 q3 F3 H3 s3 S3 => .inl ?_⟩
          obtain ⟨d, e1, q3⟩ := optP_get q3
          obtain ⟨r, e2, q3⟩ := optP_get q3
          exact ⟨F3, d, r, S3.le, r1.rd S3 (s2.trans s3) e1, e2, q3.done ((s1.trans s2).trans s3) S3⟩
        cases a with
        | var i =>
          dsimp only at q
          cases g : get env i with
          | none => rw [g] at q; exact plain q
          | some w =>
            rw [g] at q
            cases w with
            | s ns =>
              dsimp only at q
              match lo, hi, h2, h3, q with
              | none, some (.con (.int k)), h2, h3, q =>
                obtain ⟨v, e1, b, rfl, r2, r3⟩ := S.slot i _ g
                refine ⟨F, env, S, ?_⟩
                unfold wpR
                refine optP_of g fun v F1 H1 s1 S1 r1 => ?_
                have r1 : σ[i]? = some (some v) := r1
                rw [e1] at r1
                cases r1
                refine ⟨F1, env, S1, ?_⟩
                unfold wpE.wpP
                intro F2 H2 s2 S2
                refine ⟨F2, env, S2, ?_⟩
                have tail : ∀ (Q' : Option Int → Env → Prop), Q' (some k) env → wpR (wpE Γ n) (.con (.int k)) env (PX CT X.K W Z σ F2) fun ob env1 => optP (rdv env1 ob) fun d => optP (intD d) fun i => Q' (some i) env1 := fun Q' z => by
                  cases n with
                  | zero => cases h1
                  | succ j => exact optP_of rfl (optP_of rfl (optP_of rfl z))
                refine tail (fun i env' => ∀ F' H', Same F2 F' → SR X.K Z F' H' σ env' → rSlc (.ref b) none i H' Q ∨ rSlcS X.K (.ref b) none i H' Q) ?_
                intro F3 H3 s3 S3
                exact .inr ⟨F3, b, ns, S3.le, rfl, Same.seq S3.keep r2, q.done ((s1.trans s2).trans s3) S3⟩
              | none, none, _, _, q => exact q.elim
              | some _, none, _, _, q => exact False.elim q
              | some _, some _, _, _, q => exact False.elim q
              | none, some (.con .none), _, _, q => exact q.elim
              | none, some (.con (.bool _)), _, _, q => exact q.elim
              | none, some (.con (.str _)), _, _, q => exact q.elim
              | none, some (.con (.list _)), _, _, q => exact q.elim
              | none, some (.con (.tuple _)), _, _, q => exact q.elim
              | none, some (.con (.dict _)), _, _, q => exact q.elim
              | none, some (.var _), _, _, q => exact q.elim
              | none, some (.refv _), _, _, q => exact q.elim
              | none, some (.bin _ _ _), _, _, q => exact q.elim
              | none, some (.neg _), _, _, q => exact q.elim
              | none, some (.cmp _ _ _), _, _, q => exact q.elim
              | none, some (.chain ..), _, _, q => exact q.elim
              | none, some (.chain3 ..), _, _, q => exact q.elim
              | none, some (.and_ ..), _, _, q => exact q.elim
              | none, some (.or_ ..), _, _, q => exact q.elim
              | none, some (.notv ..), _, _, q => exact q.elim
              | none, some (.ife ..), _, _, q => exact q.elim
              | none, some (.tup ..), _, _, q => exact q.elim
              | none, some (.lst ..), _, _, q => exact q.elim
              | none, some (.idx ..), _, _, q => exact q.elim
              | none, some (.slc ..), _, _, q => exact q.elim
              | none, some (.rev ..), _, _, q => exact q.elim
              | none, some (.call ..), _, _, q => exact q.elim
              | none, some (.callk ..), _, _, q => exact q.elim
              | none, some (.bi ..), _, _, q => exact q.elim
              | none, some (.mth ..), _, _, q => exact q.elim
              | none, some (.mtd ..), _, _, q => exact q.elim
              | none, some (.comp ..), _, _, q => exact q.elim
              | none, some (.comp2 ..), _, _, q => exact q.elim
              | none, some (.att ..), _, _, q => exact q.elim
              | none, some (.jar ..), _, _, q => exact q.elim
              | none, some (.slen ..), _, _, q => exact q.elim
              | none, some (.sidx ..), _, _, q => exact q.elim
              | none, some (.irng ..), _, _, q => exact q.elim
              | none, some (.ienum ..), _, _, q => exact q.elim
              | none, some (.izip ..), _, _, q => exact q.elim
              | none, some (.irev ..), _, _, q => exact q.elim
            | v d => exact plain q
            | o xs => exact plain q
            | r xs => exact plain q
            | x c fs => exact plain q
        | _ => exact plain q
    | _ => cases h
  | _ => cases h
/-! built-in functions -/
theorem bi_read (Z : Zt) {b : BI} {as : List M} {σ : L2.St} {H : Hp} {Q : VK} (q : tE Γ CT X.K W Z (n + 1) (.bi b as) σ H Q) : tOs Γ CT X.K W Z n as σ H fun vs H1 => rBi b vs H1 Q := by
  obtain ⟨F, env, S, q⟩ := q
  rw [wpE_succ] at q
  unfold wpE1 at q
  dsimp only at q
  refine ⟨F, env, S, wpOs_mono (wpE_mono Γ n) (fx := True) q (fun _ _ z => z) fun os env1 q1 vs F1 H1 s1 S1 r1 => ?_⟩
  obtain ⟨ds, e1, q1⟩ := optP_get q1
  obtain ⟨r, e2, q1⟩ := optP_get q1
  obtain ⟨c, q1⟩ := ckP_get q1
  exact ⟨F1, ds, r, S1.le, r1.rds S1 same_refl e1, e2, c, q1.done s1 S1⟩
omit IH in
theorem rg_map (a : Int) (n : Nat) : rngI a n = ((List.range n).map fun (k : Nat) => a + (k : Int)).map .int := by
  unfold rngI; rw [List.map_map]; rfl
omit IH in
theorem rgV_map (a b : Int) : rgV a b = ((List.range (b - a).toNat).map fun (k : Nat) => a + (k : Int)).map V.int := by
  unfold rgV; rw [List.map_map]; rfl
omit IH in
theorem reps_rg {F : Hp} (a b : Int) : Reps F (rgV a b) (rngI a (b - a).toNat) := by
  rw [rg_map, rgV_map]; exact .of_ints _
theorem snd_sset (ok : Ok Γ CT X W cc) (Z : Zt) {as : List M} {e : Expr} (h : chkE (n + 1) cc (.bi .sset as) e = true) : PE X e (tE Γ CT X.K W Z (n + 1) (.bi .sset as)) := by
  match e, h with
  | .Call (.Name x xp) [.Call (.Name y yp) [z] [] p2] [] p, h =>
    obtain ⟨h, h5⟩ := and_split (show (decide (x = "sorted") && decide (y = "set") && gloB cc x && gloB cc y && chkL (chkE n cc) as [z]) = true from h)
    obtain ⟨h, h4⟩ := and_split h
    obtain ⟨h, h3⟩ := and_split h
    obtain ⟨h1, h2⟩ := and_split h
    have ex := of_decide_eq_true h1
    have ey := of_decide_eq_true h2
    subst ex ey
    obtain ⟨gl, gd⟩ := ok.gl h3
    obtain ⟨gl2, gd2⟩ := ok.gl h4
    match as, h5 with
    | [], h5 => cases h5
    | _ :: _ :: _, h5 => obtain ⟨_, h5⟩ := and_split h5; cases h5
    | [a], h5 =>
      obtain ⟨h5, _⟩ := and_split h5
      refine PE.imp (pe_sset ok.calm gl (ok.blt _ (by decide)) gl2 (ok.blt _ (by decide)) (snd_R IH ok Z h5) (chk_star h5 [] [] _)) fun σ H Q q => ?_
      obtain ⟨F, env, S, q⟩ := q
      rw [wpE_succ] at q
      unfold wpE1 at q
      dsimp only at q
      rw [wpOs_cons] at q
      refine ⟨F, env, S, wpR_mono (wpE_mono Γ n) q (fun _ _ z => z) fun o env1 q1 v F1 H1 s1 S1 r1 => ?_⟩
      obtain ⟨ds, e1, q1⟩ := optP_get q1
      obtain ⟨r, e2, q1⟩ := optP_get q1
      obtain ⟨c, q2⟩ := ckP_get q1
      have qd := q2.done s1 S1
      have rds : Rds F1 H1 [v] ds := ROs.rds S1 same_refl (.cons r1 .nil) e1
      have hd : ∃ ys, ds = [.list ys] := by
        match ds, e2, c with
        | [], e2, _ => cases e2
        | [d], e2, c =>
          cases d with
          | list ys => exact ⟨ys, rfl⟩
          | tuple ys => exact (show False from c).elim
          | _ => simp only [biD, seqD] at e2; cases e2
        | d :: _ :: _, e2, _ => cases d <;> cases e2
      obtain ⟨ys, rfl⟩ := hd
      obtain ⟨x, ex, hx⟩ := rds.one
      cases ex
      obtain ⟨l, vs, rfl, hl, ra⟩ := hx.lst S1.le
      simp only [biD, seqD] at e2
      cases g : intsD ys with
      | none => rw [g] at e2; cases e2
      | some ns =>
        rw [g] at e2; cases e2
        have := ra.ints g
        subst this
        exact ⟨l, ns, rfl, SqL.of hl, by rw [intsD_length g]; exact c, fun p hp => qd _ _ _ (Grow.own S1.le hp) ⟨p, _, rfl, hp, upd_same, noneF S1.le hp, .of_ints _⟩⟩
theorem snd_rngT (ok : Ok Γ CT X W cc) (Z : Zt) {as : List M} {e : Expr} (h : chkE (n + 1) cc (.bi .rngT as) e = true) : PE X e (tE Γ CT X.K W Z (n + 1) (.bi .rngT as)) := by
  match e, h with
  | .Call (.Name x xp) [.Call (.Name y yp) es [] p2] [] p, h =>
    obtain ⟨h, h5⟩ := and_split (show (decide (x = "tuple") && decide (y = "range") && gloB cc x && gloB cc y && rngA (chkE n cc) as es) = true from h)
    obtain ⟨h, h4⟩ := and_split h
    obtain ⟨h, h3⟩ := and_split h
    obtain ⟨h1, h2⟩ := and_split h
    have ex := of_decide_eq_true h1
    have ey := of_decide_eq_true h2
    subst ex ey
    obtain ⟨gl, gd⟩ := ok.gl h3
    obtain ⟨gl2, gd2⟩ := ok.gl h4
    match as, es, h5 with
    | [a], [z], h5 =>
      refine PE.imp (pe_tupRg ok.calm gl (ok.blt _ (by decide)) (prg_1 gl2 (ok.blt _ (by decide)) (snd_R IH ok Z h5) (chk_star h5 [] [] _)) rfl) fun σ H Q q => ?_
      obtain ⟨F, env, S, q⟩ := q
      rw [wpE_succ] at q
      unfold wpE1 at q
      dsimp only at q
      rw [wpOs_cons] at q
      refine ⟨F, env, S, wpR_mono (wpE_mono Γ n) q (fun _ _ z => z) fun o env1 q1 v F1 H1 s1 S1 r1 => ?_⟩
      obtain ⟨ds, e1, q1⟩ := optP_get q1
      obtain ⟨r, e2, q1⟩ := optP_get q1
      obtain ⟨c, q2⟩ := ckP_get q1
      have qd := q2.done s1 S1
      have rds : Rds F1 H1 [v] ds := ROs.rds S1 same_refl (.cons r1 .nil) e1
      have hd : ∃ k, ds = [.int k] := by
        match ds, e2 with
        | [], e2 => cases e2
        | [d], e2 => cases d <;> first | exact ⟨_, rfl⟩ | cases e2
        | [_, _], _ => cases rds with | cons _ t => cases t
        | _ :: _ :: _ :: _, _ => cases rds with | cons _ t => cases t
      obtain ⟨k, rfl⟩ := hd
      obtain ⟨x, ex, hx⟩ := rds.one
      cases ex
      cases hx.int
      cases e2
      have c : 0 ≤ k ∧ k ≤ LIM := c
      refine ⟨k, rfl, .of_le (by decide) (by rw [limLine, sizeLine_eq] at c; omega) (by decide) c.1, fun p hp => ?_⟩
      have ek : k.toNat = (k - 0).toNat := by rw [Int.sub_zero]
      rw [ek] at qd
      exact qd _ _ _ (Grow.froz S1.le hp) (.tup upd_same ((reps_rg _ _).mono (same_upd (noneF S1.le hp))))
    | [a, b], [z, u], h5 =>
      obtain ⟨h5, h6⟩ := and_split h5
      refine PE.imp (pe_tupRg ok.calm gl (ok.blt _ (by decide)) (prg_2 gl2 (ok.blt _ (by decide)) (snd_R IH ok Z h5) (snd_R IH ok Z h6) (chk_star h5 [] [u] _) (chk_star h6 [] [] _) (by rw [chk_star h6 [] [] _]; rfl)) rfl) fun σ H Q q => ?_
      obtain ⟨F, env, S, q⟩ := q
      rw [wpE_succ] at q
      unfold wpE1 at q
      dsimp only at q
      rw [wpOs_cons] at q
      refine ⟨F, env, S, wpR_mono (wpE_mono Γ n) q (fun _ _ z => z) fun o env1 q1 v F1 H1 s1 S1 r1 => ?_⟩
      rw [wpOs_cons] at q1
      refine ⟨F1, env1, S1, wpR_mono (wpE_mono Γ n) q1 (PX.lift s1) fun o2 env2 q1 v2 F2 H2 s2 S2 r2 => ?_⟩
      obtain ⟨ds, e1, q1⟩ := optP_get q1
      obtain ⟨r, e2, q1⟩ := optP_get q1
      obtain ⟨c, q2⟩ := ckP_get q1
      have qd := q2.done (s1.trans s2) S2
      have rds : Rds F2 H2 [v, v2] ds := ROs.rds S2 same_refl (.cons (r1.mono s2) (.cons r2 .nil)) e1
      have hd : ∃ i j, ds = [.int i, .int j] := by
        match ds, e2 with
        | [], e2 => cases e2
        | [_], _ => cases rds with | cons _ t => cases t
        | [d, d2], e2 => cases d <;> cases d2 <;> first | exact ⟨_, _, rfl⟩ | cases e2
        | _ :: _ :: _ :: _, _ => cases rds with | cons _ t => cases t with | cons _ t => cases t
      obtain ⟨i, j, rfl⟩ := hd
      obtain ⟨x, y, ex, hx, hy⟩ := rds.two
      cases ex
      cases hx.int
      cases hy.int
      cases e2
      have c : 0 ≤ i ∧ i ≤ LIM ∧ 0 ≤ j ∧ j ≤ LIM := c
      refine ⟨i, j, rfl, rfl, .of_le c.1 (by rw [limLine, sizeLine_eq] at c; omega) (by rw [limLine, sizeLine_eq] at c; omega) c.2.2.1, fun p hp => ?_⟩
      exact qd _ _ _ (Grow.froz S2.le hp) (.tup upd_same ((reps_rg _ _).mono (same_upd (noneF S2.le hp))))
theorem snd_rngL (ok : Ok Γ CT X W cc) (Z : Zt) {as : List M} {e : Expr} (h : chkE (n + 1) cc (.bi .rngL as) e = true) : PE X e (tE Γ CT X.K W Z (n + 1) (.bi .rngL as)) := by
  match e, h with
  | .Call (.Name x xp) [.Call (.Name y yp) es [] p2] [] p, h =>
    obtain ⟨h, h5⟩ := and_split (show (decide (x = "list") && decide (y = "range") && gloB cc x && gloB cc y && rngA (chkE n cc) as es) = true from h)
    obtain ⟨h, h4⟩ := and_split h
    obtain ⟨h, h3⟩ := and_split h
    obtain ⟨h1, h2⟩ := and_split h
    have ex := of_decide_eq_true h1
    have ey := of_decide_eq_true h2
    subst ex ey
    obtain ⟨gl, gd⟩ := ok.gl h3
    obtain ⟨gl2, gd2⟩ := ok.gl h4
    match as, es, h5 with
    | [a], [z], h5 =>
      refine PE.imp (pe_listRg ok.calm gl (ok.blt _ (by decide)) (prg_1 gl2 (ok.blt _ (by decide)) (snd_R IH ok Z h5) (chk_star h5 [] [] _)) rfl) fun σ H Q q => ?_
      obtain ⟨F, env, S, q⟩ := q
      rw [wpE_succ] at q
      unfold wpE1 at q
      dsimp only at q
      rw [wpOs_cons] at q
      refine ⟨F, env, S, wpR_mono (wpE_mono Γ n) q (fun _ _ z => z) fun o env1 q1 v F1 H1 s1 S1 r1 => ?_⟩
      obtain ⟨ds, e1, q1⟩ := optP_get q1
      obtain ⟨r, e2, q1⟩ := optP_get q1
      obtain ⟨c, q2⟩ := ckP_get q1
      have qd := q2.done s1 S1
      have rds : Rds F1 H1 [v] ds := ROs.rds S1 same_refl (.cons r1 .nil) e1
      have hd : ∃ k, ds = [.int k] := by
        match ds, e2 with
        | [], e2 => cases e2
        | [d], e2 => cases d <;> first | exact ⟨_, rfl⟩ | cases e2
        | [_, _], _ => cases rds with | cons _ t => cases t
        | _ :: _ :: _ :: _, _ => cases rds with | cons _ t => cases t
      obtain ⟨k, rfl⟩ := hd
      obtain ⟨x, ex, hx⟩ := rds.one
      cases ex
      cases hx.int
      cases e2
      have c : 0 ≤ k ∧ k ≤ LIM := c
      refine ⟨k, rfl, .of_le (by decide) (by rw [limLine, sizeLine_eq] at c; omega) (by decide) c.1, fun p hp => ?_⟩
      have ek : k.toNat = (k - 0).toNat := by rw [Int.sub_zero]
      rw [ek] at qd
      exact qd _ _ _ (Grow.own S1.le hp) ⟨p, _, rfl, hp, upd_same, noneF S1.le hp, reps_rg _ _⟩
    | [a, b], [z, u], h5 =>
      obtain ⟨h5, h6⟩ := and_split h5
      refine PE.imp (pe_listRg ok.calm gl (ok.blt _ (by decide)) (prg_2 gl2 (ok.blt _ (by decide)) (snd_R IH ok Z h5) (snd_R IH ok Z h6) (chk_star h5 [] [u] _) (chk_star h6 [] [] _) (by rw [chk_star h6 [] [] _]; rfl)) rfl) fun σ H Q q => ?_
      obtain ⟨F, env, S, q⟩ := q
      rw [wpE_succ] at q
      unfold wpE1 at q
      dsimp only at q
      rw [wpOs_cons] at q
      refine ⟨F, env, S, wpR_mono (wpE_mono Γ n) q (fun _ _ z => z) fun o env1 q1 v F1 H1 s1 S1 r1 => ?_⟩
      rw [wpOs_cons] at q1
      refine ⟨F1, env1, S1, wpR_mono (wpE_mono Γ n) q1 (PX.lift s1) fun o2 env2 q1 v2 F2 H2 s2 S2 r2 => ?_⟩
      obtain ⟨ds, e1, q1⟩ := optP_get q1
      obtain ⟨r, e2, q1⟩ := optP_get q1
      obtain ⟨c, q2⟩ := ckP_get q1
      have qd := q2.done (s1.trans s2) S2
      have rds : Rds F2 H2 [v, v2] ds := ROs.rds S2 same_refl (.cons (r1.mono s2) (.cons r2 .nil)) e1
      have hd : ∃ i j, ds = [.int i, .int j] := by
        match ds, e2 with
        | [], e2 => cases e2
        | [_], _ => cases rds with | cons _ t => cases t
        | [d, d2], e2 => cases d <;> cases d2 <;> first | exact ⟨_, _, rfl⟩ | cases e2
        | _ :: _ :: _ :: _, _ => cases rds with | cons _ t => cases t with | cons _ t => cases t
      obtain ⟨i, j, rfl⟩ := hd
      obtain ⟨x, y, ex, hx, hy⟩ := rds.two
      cases ex
      cases hx.int
      cases hy.int
      cases e2
      have c : 0 ≤ i ∧ i ≤ LIM ∧ 0 ≤ j ∧ j ≤ LIM := c
      refine ⟨i, j, rfl, rfl, .of_le c.1 (by rw [limLine, sizeLine_eq] at c; omega) (by rw [limLine, sizeLine_eq] at c; omega) c.2.2.1, fun p hp => ?_⟩
      exact qd _ _ _ (Grow.own S2.le hp) ⟨p, _, rfl, hp, upd_same, noneF S2.le hp, reps_rg _ _⟩
theorem snd_bi (ok : Ok Γ CT X W cc) (Z : Zt) {b : BI} {as : List M} {e : Expr} (hb : ∀ ts, b ≠ .isi ts) (hs : b ≠ .sset ∧ b ≠ .rngT ∧ b ≠ .rngL) (h : chkE (n + 1) cc (.bi b as) e = true) : PE X e (tE Γ CT X.K W Z (n + 1) (.bi b as)) := by
  cases e with
  | Call g es kws p =>
    cases g with
    | Name x xp =>
      cases kws with
      | cons k ks =>
        cases b <;> first | exact absurd rfl (hb _) | exact absurd rfl hs.1 | exact absurd rfl hs.2.1 | exact absurd rfl hs.2.2 | cases h
      | nil =>
        have h' : (decide (x = biNm b) && biOk b && mathOk cc b && gloB cc x && chkL (chkE n cc) as es && !es.isEmpty) = true := by
          cases b <;> first | exact absurd rfl (hb _) | exact absurd rfl hs.1 | exact absurd rfl hs.2.1 | exact absurd rfl hs.2.2 | exact h
        obtain ⟨h, h6⟩ := and_split h'
        obtain ⟨h, h5⟩ := and_split h
        obtain ⟨h, h4⟩ := and_split h
        obtain ⟨h, h3⟩ := and_split h
        obtain ⟨h1, h2⟩ := and_split h
        have ex := of_decide_eq_true h1
        subst ex
        cases es with
        | nil => cases h6
        | cons e1 es =>
          obtain ⟨gl, gd⟩ := ok.gl h4
          have pa := snd_Os IH ok Z h5
          have st : starEach (e1 :: es) X.env = (false, eval e1 X.env) :: starEach es X.env ∧ ∀ pos, (backTo pos (starEach es X.env)).any (·.1) = false := by
            cases as with
            | nil => cases h5
            | cons m ms =>
              obtain ⟨k1, k2⟩ := and_split h5
              exact ⟨chk_star k1 [] es _, fun pos => noStar (fun m e he es => chk_star he [] es _) k2⟩
          have cb := call_bi (X := X) b h2 ok.calm ok.un
          refine PE.imp (t := tCB (rBi b) (tOs Γ CT X.K W Z n as)) ?_ fun σ H Q q => bi_read IH Z q
          have nn : ∀ {y : Str}, biNm b = y → y ≠ "__name__" → biNm b ≠ "__name__" := fun e z => by rw [e]; exact z
          cases b with
          | len => exact pe_callB cb gl (ok.blt _ (by decide)) (by decide +kernel) pa (by decide) gd st.1 (st.2 _)
          | abs => exact pe_callB cb gl (ok.blt _ (by decide)) (by decide +kernel) pa (by decide) gd st.1 (st.2 _)
          | sorted => exact pe_callB cb gl (ok.blt _ (by decide)) (by decide +kernel) pa (by decide) gd st.1 (st.2 _)
          | sum => exact pe_callB cb gl (ok.blt _ (by decide)) (by decide +kernel) pa (by decide) gd st.1 (st.2 _)
          | min1 => exact pe_callB cb gl (ok.blt _ (by decide)) (by decide +kernel) pa (by decide) gd st.1 (st.2 _)
          | max1 => exact pe_callB cb gl (ok.blt _ (by decide)) (by decide +kernel) pa (by decide) gd st.1 (st.2 _)
          | min2 => exact pe_callB cb gl (ok.blt _ (by decide)) (by decide +kernel) pa (by decide) gd st.1 (st.2 _)
          | max2 => exact pe_callB cb gl (ok.blt _ (by decide)) (by decide +kernel) pa (by decide) gd st.1 (st.2 _)
          | int1 => exact pe_callTy cb gl (ok.blt _ (by decide)) (by decide +kernel) pa (by decide) gd st.1 (st.2 _)
          | tup1 => exact pe_callTy cb gl (ok.blt _ (by decide)) (by decide +kernel) pa (by decide) gd st.1 (st.2 _)
          | lst1 => exact pe_callTy cb gl (ok.blt _ (by decide)) (by decide +kernel) pa (by decide) gd st.1 (st.2 _)
          | gcd => exact pe_callBfun cb gl (ok.gcd h3) pa gd st.1 (st.2 _)
          | isi ts => exact absurd rfl (hb _)
          | lcm => exact pe_callBfun cb gl (ok.lcm h3) pa gd st.1 (st.2 _)
          | str1 => exact pe_callTy cb gl (ok.blt _ (by decide)) (by decide +kernel) pa (by decide) gd st.1 (st.2 _)
          | sset => cases h2
          | rngT => cases h2
          | rngL => cases h2
    | _ => cases b <;> first | exact absurd rfl (hb _) | exact absurd rfl hs.1 | exact absurd rfl hs.2.1 | exact absurd rfl hs.2.2 | cases h
  | _ => cases b <;> first | exact absurd rfl (hb _) | exact absurd rfl hs.1 | exact absurd rfl hs.2.1 | exact absurd rfl hs.2.2 | cases h
end
end GM

set_option maxRecDepth 100000
/-! GM: expressions keep what wpE says: isinstance, methods, targets -/
namespace GM
open PySem PySem.Spec PyProof.Rows L2
def kdS : Nat → String
  | 0 => "int" | 1 => "bool" | 2 => "str" | 3 => "tuple" | 4 => "list" | _ => "NoneType"
theorem ty_rd {K : PySem.W.Frag} {F H : Hp} {v : V} {d : D} {k : Nat} (s : Same F H) (h : Rd F H v d) (e : tyOf d = some k) : TyX K H v (.type (kdS k)) ∧ k < 6 := by
  cases d with
  | none => cases h.non; cases e; exact ⟨.base .non, by decide⟩
  | bool b => cases h.bl; cases e; exact ⟨.base (.bl b), by decide⟩
  | int i => cases h.int; cases e; exact ⟨.base (.int i), by decide⟩
  | str x => cases h.str; cases e; exact ⟨.base (.str x), by decide⟩
  | list xs => obtain ⟨a, vs, rfl, ha, ra⟩ := h.lst s; cases e; exact ⟨.base (.lst ha), by decide⟩
  | tuple xs => obtain ⟨a, vs, rfl, ha, _, ra⟩ := h.tup s; cases e; exact ⟨.base (.tup ha), by decide⟩
  | dict kvs => cases e
def kdChk (k t : Nat) : Bool := decide (kitB (kdS k) (kdS t) = some (isiB k t))
theorem kd_all : (List.range 6).all (fun k => (List.range 5).all fun t => kdChk k t) = true := by decide +kernel
theorem kd_one {K : PySem.W.Frag} {k t : Nat} (hk : k < 6) (ht : t < 5) : PySem.W.kitOne K (.type (kdS k)) (.type (kdS t)) = some (isiB k t) := by
  have h := List.all_eq_true.mp kd_all k (List.mem_range.mpr hk)
  have h := List.all_eq_true.mp h t (List.mem_range.mpr ht)
  exact kit_ty (of_decide_eq_true h)
theorem kd_any {K : PySem.W.Frag} {k : Nat} (hk : k < 6) : ∀ ts : List Nat, (∀ t ∈ ts, t < 5) → PySem.W.kitAny K (.type (kdS k)) (ts.map fun t => Value.type (kdS t)) = some (ts.any (isiB k))
  | [], _ => kitAny_nil
  | t :: ts, h => by
    have h1 := kd_one (K := K) hk (h t List.mem_cons_self)
    have h2 := kd_any (K := K) hk ts fun u m => h u (List.mem_cons_of_mem _ m)
    refine kitAny_cons h1 (fun e => ?_) fun e => ?_
    · show _ = some ((isiB k t) || ts.any (isiB k))
      rw [e]; exact h2
    · show ((isiB k t) || ts.any (isiB k)) = true
      rw [e]; rfl
theorem boot_ty {t : Nat} (ht : t < 5) : bootBuiltins (tyNm t) = some (.type (kdS t)) ∧ tyNm t ∈ blts ∧ tyNm t ≠ "__name__" := by
  match t, ht with
  | 0, _ => decide +kernel
  | 1, _ => decide +kernel
  | 2, _ => decide +kernel
  | 3, _ => decide +kernel
  | 4, _ => decide +kernel
theorem tx_upd {K : PySem.W.Frag} {H : Hp} {v : V} {t : Value} {a : Addr} {o : HO} (h : TyX K H v t) (ha : H a = none) : TyX K (upd H a o) v t := by
  have k : ∀ {b : Addr} {x : HO}, H b = some x → upd H a o b = some x := fun {b x} e => by rw [upd_ne (ne_of_none e ha)]; exact e
  cases h with
  | base b =>
    refine .base ?_
    cases b with
    | non => exact .non
    | bl x => exact .bl x
    | int i => exact .int i
    | str x => exact .str x
    | flt x => exact .flt x
    | lst e => exact .lst (k e)
    | frz e => exact .frz (k e)
    | tup e => exact .tup (k e)
    | dK e => exact .dK (k e)
    | dT e => exact .dT (k e)
    | ins e h1 h2 h3 h4 h5 => exact .ins (k e) h1 h2 h3 h4 h5
  | byt b => exact .byt b
  | set e => exact .set (k e)
  | kList e c => exact .kList e c
  | kTuple e c => exact .kTuple e c
  | kDict e c => exact .kDict e c
  | fTuple e => exact .fTuple (k e)
  | fDict e => exact .fDict (k e)
section
variable {Γ : Nat → Option FS} {CT : CTab} {X : Cx} {W : WX} {cc : CC} {Z : Zt} {n : Nat}
theorem pe_ty (ok : Ok Γ CT X W cc) {t : Nat} {e : Expr} (h : tyE cc t e = true) : PE X e (tC (.ty (kdS t))) ∧ (∀ es, starEach (e :: es) X.env = (false, eval e X.env) :: starEach es X.env) ∧ t < 5 := by
  cases e with
  | Name x p =>
    obtain ⟨h, h3⟩ := and_split (show (decide (x = tyNm t) && gloB cc x && decide (t < 5)) = true from h)
    obtain ⟨h1, h2⟩ := and_split h
    have ex := of_decide_eq_true h1
    subst ex
    have ht := of_decide_eq_true h3
    obtain ⟨b1, b2, b3⟩ := boot_ty ht
    obtain ⟨g, gd⟩ := ok.gl h2
    exact ⟨pe_bltn g (ok.blt _ b2) b1 rfl b3 gd, fun _ => name_star, ht⟩
  | _ => cases h
theorem pa_tys (ok : Ok Γ CT X W cc) : ∀ {ts : List Nat} {es : List Expr}, tyEs cc ts es = true → PA X es (fun _ H Q => Q (ts.map fun t => V.ty (kdS t)) H) ∧ (∀ t ∈ ts, t < 5) ∧ ts.length = es.length
  | [], [], _ => ⟨PA.imp pa_nil fun σ H Q q => q, fun _ h => (by cases h), rfl⟩
  | t :: ts, e :: es, h => by
    obtain ⟨h1, h2⟩ := and_split h
    obtain ⟨p1, p2, p3⟩ := pe_ty ok h1
    obtain ⟨q1, q2, q3⟩ := pa_tys ok h2
    refine ⟨PA.imp (pa_cons p1 q1 (p2 es)) fun σ H Q q => q, fun u m => ?_, by simp [q3]⟩
    rcases List.mem_cons.mp m with e | m
    · rw [e]; exact p3
    · exact q2 u m
  | [], _ :: _, h => by cases h
  | _ :: _, [], h => by cases h
theorem cls_all : ∀ ts : List Nat, Paired ClsV (ts.map fun t => V.ty (kdS t)) (ts.map fun t => Value.type (kdS t))
  | [] => .nil
  | t :: ts => .cons (.ty _) (cls_all ts)
theorem snd_isi (IH : SoundE Γ CT n) (ok : Ok Γ CT X W cc) (Z : Zt) {ts : List Nat} {as : List M} {e : Expr} (h : chkE (n + 1) cc (.bi (.isi ts) as) e = true) : PE X e (tE Γ CT X.K W Z (n + 1) (.bi (.isi ts) as)) := by
  cases e with
  | Call g es kws p =>
    cases g with
    | Name x xp =>
      match es, kws, h with
      | [y, t], [], h =>
        obtain ⟨h, h4⟩ := and_split (show (decide (x = "isinstance") && gloB cc x && chkL (chkE n cc) as [y] && tyT cc ts t) = true from h)
        obtain ⟨h, h3⟩ := and_split h
        obtain ⟨h1, h2⟩ := and_split h
        have ex := of_decide_eq_true h1
        subst ex
        obtain ⟨gl, gd⟩ := ok.gl h2
        match as, h3 with
        | [m], h3 =>
          obtain ⟨h3, _⟩ := and_split h3
          have pm := snd_R IH ok Z h3
          have st1 := chk_star h3 [] [t] X.env
          have read : ∀ {σ : L2.St} {H : Hp} {Q : VK}, tE Γ CT X.K W Z (n + 1) (.bi (.isi ts) [m]) σ H Q → tR Γ CT X.K W Z n m σ H fun v H1 => ∃ k, TyX X.K H1 v (.type (kdS k)) ∧ k < 6 ∧ ∃ F1, Same F1 H1 ∧ ∀ H2 F2, Grow F1 H1 F2 H2 → Q (.bl (ts.any (isiB k))) H2 := by
            rintro σ H Q ⟨F, env, S, q⟩
            rw [wpE_succ] at q
            unfold wpE1 at q
            dsimp only [wpOs] at q
            refine ⟨F, env, S, wpR_mono (wpE_mono Γ n) q (fun _ _ z => z) fun o env1 q1 v F1 H1 s1 S1 r1 => ?_⟩
            obtain ⟨ds, e1, q2⟩ := optP_get q1
            obtain ⟨r, e2, q3⟩ := optP_get q2
            obtain ⟨_, q4⟩ := ckP_get q3
            simp only [rdvs] at e1
            cases e3 : rdv env1 o with
            | none => rw [e3] at e1; cases e1
            | some d =>
              rw [e3] at e1
              obtain rfl : [d] = ds := by cases e1; rfl
              simp only [biD] at e2
              cases e4 : tyOf d with
              | none => rw [e4] at e2; cases e2
              | some k =>
                rw [e4] at e2
                obtain rfl : U.v (.bool (ts.any (isiB k))) = r := by cases e2; rfl
                obtain ⟨t1, t2⟩ := ty_rd (K := X.K) S1.le (r1.rd S1 same_refl e3) e4
                exact ⟨k, t1, t2, F1, S1.le, fun H2 F2 g => q4.done s1 S1 _ _ _ g (.bl _)⟩
          by_cases ht : ∃ es k tp, t = .Tuple es k tp
          · obtain ⟨es, k, tp, rfl⟩ := ht
            obtain ⟨h4, h5⟩ := and_split (show (tyEs cc ts es && decide (es.length ≤ LIM)) = true from h4)
            obtain ⟨pt, pl, pn⟩ := pa_tys ok h4
            have pa := pa_cons pm (pa_cons (pe_tup (x1 := k) (pos := tp) pt) pa_nil rfl) st1
            refine PE.imp (pe_callB call_isiT gl (ok.blt _ (by decide)) (by decide +kernel) pa (by decide) gd st1 rfl) fun σ H Q q => ?_
            obtain ⟨F, env, S, q⟩ := read q
            refine ⟨F, env, S, wpR_mono (wpE_mono Γ n) q (fun _ _ z => z) fun o env1 q1 v F1 H1 s1 S1 r1 => ?_⟩
            obtain ⟨k, tx, hk, F2, s2, q2⟩ := q1 v F1 H1 s1 S1 r1
            refine ⟨by rw [List.length_map, pn]; exact plus_len rfl (of_decide_eq_true h5), fun a ha => ?_⟩
            exact ⟨v, a, _, _, _, _, rfl, upd_same, cls_all ts, tx_upd tx ha, kd_any hk ts pl, q2 _ _ (Grow.own s2 ha)⟩
          · have h4 : tyEs cc ts [t] = true := by
              cases t <;> first | exact h4 | exact absurd ⟨_, _, _, rfl⟩ ht
            match ts, h4 with
            | [c], h4 =>
              obtain ⟨h4, _⟩ := and_split h4
              obtain ⟨pt, st2, hc⟩ := pe_ty ok h4
              have pa := pa_cons pm (pa_cons pt pa_nil (st2 [])) st1
              refine PE.imp (pe_callB call_isi gl (ok.blt _ (by decide)) (by decide +kernel) pa (by decide) gd st1 (by rw [st2]; rfl)) fun σ H Q q => ?_
              obtain ⟨F, env, S, q⟩ := read q
              refine ⟨F, env, S, wpR_mono (wpE_mono Γ n) q (fun _ _ z => z) fun o env1 q1 v F1 H1 s1 S1 r1 => ?_⟩
              obtain ⟨k, tx, hk, F2, s2, q2⟩ := q1 v F1 H1 s1 S1 r1
              have q3 := q2 H1 F2 (Grow.refl s2)
              exact ⟨v, _, _, _, _, rfl, .ty _, tx, kd_one hk hc, by simpa using q3⟩
            | [], h4 => cases h4
            | _ :: _ :: _, h4 => obtain ⟨_, h4⟩ := and_split h4; cases h4
        | [], h3 => cases h3
        | _ :: _ :: _, h3 => obtain ⟨_, h3⟩ := and_split h3; cases h3
      | [], _, h => cases h
      | [_], _, h => cases h
      | _ :: _ :: _ :: _, _, h => cases h
      | [_, _], _ :: _, h => cases h
    | _ => cases h
  | _ => cases h
/-! a list's methods -/
theorem noStarAll {rec : M → Expr → Bool} {env : PySem.Env} {pos : Pos} (hs : ∀ m e, rec m e = true → ∀ es, starEach (e :: es) env = (false, eval e env) :: starEach es env) : ∀ {ms : List M} {es : List Expr}, chkL rec ms es = true → (backTo pos (starEach es env)).all (fun x => !x.1) = true
  | [], [], _ => rfl
  | m :: ms, e :: es, h => by
    obtain ⟨h1, h2⟩ := and_split h
    have ih := noStarAll (pos := pos) hs h2
    rw [hs m e h1]
    unfold backTo at ih ⊢
    rw [List.map_cons, List.all_cons, ih]
    rfl
  | [], _ :: _, h => by cases h
  | _ :: _, [], h => by cases h
theorem slot_mn (mn : MN) (h : mn ≠ .insert) : Slot "list" (mnNm mn) (mnId mn) ∧ typeOf (.builtin (mnId mn)) = pure (.type "method_descriptor") := by
  cases mn with
  | append => exact ⟨slot_list_append, type_list_append⟩
  | pop => exact ⟨PySem.F.slot_list_pop, PySem.F.type_list_pop⟩
  | popAt => exact ⟨PySem.F.slot_list_pop, PySem.F.type_list_pop⟩
  | extend => exact ⟨PySem.F.slot_list_extend, PySem.F.type_list_extend⟩
  | insert => exact absurd rfl h
  | reverse => exact ⟨PySem.F.slot_list_reverse, PySem.F.type_list_reverse⟩
/-- a method's reading, behind its receiver -/
theorem mth_read (Z : Zt) {mn : MN} {i : Nat} {as : List M} {σ : L2.St} {H : Hp} {Q : VK} (q : tE Γ CT X.K W Z (n + 1) (.mth mn i as) σ H Q) :
    ∃ x, σ[i]? = some (some x) ∧ tyV X.K "list" x H ∧ tVs Γ CT X.K W Z n as σ H fun xs H2 => rMth mn x xs H2 Q := by
  obtain ⟨F, env, S, q⟩ := q
  rw [wpE_succ] at q
  unfold wpE1 at q
  dsimp only at q
  obtain ⟨ys, e0, q1⟩ := optP_get q
  obtain ⟨a, vs, ha, hv, _, _⟩ := S.cell e0
  refine ⟨.ref a, ha, .inl ⟨rfl, _, SqL.of hv⟩, F, env, S, wpVs_mono (wpE_mono Γ n) q1 (fun _ _ z => z) fun ds env1 q2 zs F1 H1 s1 S1 r1 => ?_⟩
  obtain ⟨xs, e1, q3⟩ := optP_get q2
  obtain ⟨p, e2, q4⟩ := optP_get q3
  obtain ⟨c, q5⟩ := ckP_get q4
  obtain ⟨a', ws, ha', hv', rv, fa⟩ := S1.cell e1
  rw [ha] at ha'
  cases ha'
  exact ⟨F1, a, ws, xs, ds, p, S1.le, rfl, hv', fa, rv, r1, e2, c, fun v vs' rp rv' => q5 v F1 _ s1 (S1.change e1 ha rv') rp⟩
theorem snd_mth (IH : SoundE Γ CT n) (ok : Ok Γ CT X W cc) (Z : Zt) {mn : MN} {i : Nat} {as : List M} {e : Expr} (h : chkE (n + 1) cc (.mth mn i as) e = true) : PE X e (tE Γ CT X.K W Z (n + 1) (.mth mn i as)) := by
  cases e with
  | Call g es kws p =>
    cases g with
    | Attribute o nm ap =>
      cases o with
      | Name y yp =>
        cases kws with
        | cons k ks => cases h
        | nil =>
          obtain ⟨h, h7⟩ := and_split (show (decide (nm = mnNm mn) && nameB cc i y && chkL (chkE n cc) as es && (ap.endLine == p.line) && decide (es.length < 20) && decide (mn ≠ .insert) && mnAr mn es) = true from h)
          obtain ⟨h, h6⟩ := and_split h
          obtain ⟨h, h5⟩ := and_split h
          obtain ⟨h, h4⟩ := and_split h
          obtain ⟨h, h3⟩ := and_split h
          obtain ⟨h1, h2⟩ := and_split h
          have e1 := of_decide_eq_true h1
          subst e1
          obtain ⟨sl, ty⟩ := slot_mn mn (of_decide_eq_true h6)
          cases es with
          | nil =>
            refine PE.imp (pe_bm0 PySem.F.plainAttrs_list sl ty (mt_mth mn) (pe_name ok h2) rfl h4) fun σ H Q q => ?_
            obtain ⟨x, hx, ty, F, env, S, q⟩ := mth_read Z q
            cases as with
            | cons _ _ => cases h3
            | nil => exact ⟨x, hx, ty, q [] F H same_refl S .nil⟩
          | cons e es =>
            have st : starEach (e :: es) X.env = (false, eval e X.env) :: starEach es X.env ∧ (backTo p (starEach es X.env)).any (·.1) = false := by
              cases as with
              | nil => cases h3
              | cons m ms =>
                obtain ⟨k1, k2⟩ := and_split h3
                exact ⟨chk_star k1 [] es _, noStar (fun m e he es => chk_star he [] es _) k2⟩
            refine PE.imp (pe_bm PySem.F.plainAttrs_list sl ty (mt_mth mn) (pe_name ok h2) (snd_Vs IH ok Z h3) rfl ?_ h4 st.1 st.2) fun σ H Q q => ?_
            · rw [noStarAll (fun m e he es => chk_star he [] es _) h3]
              have hl := of_decide_eq_true h5
              show (true && true && decide _) = true
              simp only [List.length_nil, List.isEmpty_nil, if_true, Bool.true_and, decide_eq_true_eq]
              omega
            · obtain ⟨x, hx, ty, q⟩ := mth_read Z q
              exact ⟨x, hx, ty, q⟩
      | _ => cases h
    | _ => cases h
  | _ => cases h
/-! a list's place of a number -/
def rMtd : V → List V → Hp → VK → Prop := fun x xs H Q => ∃ F d ds j, Same F H ∧ Rd F H x d ∧ Reps F xs ds ∧ mtdD .index d ds = some (.v (.int j)) ∧ Q (.int j) H
theorem idxI_of {k : Int} : ∀ {ns : List Int} {n j : Nat}, idxI k ns n = some j → k ∈ ns ∧ j = n + ns.idxOf k
  | [], _, _, h => by cases h
  | m :: ns, n, j, h => by
    unfold idxI at h
    by_cases e : m = k
    · subst e; rw [if_pos rfl] at h; cases h
      exact ⟨List.mem_cons_self, by simp⟩
    · rw [if_neg e] at h
      obtain ⟨h1, h2⟩ := idxI_of h
      refine ⟨List.mem_cons_of_mem _ h1, ?_⟩
      have e2 : (m :: ns).idxOf k = ns.idxOf k + 1 := by
        rw [List.idxOf_cons]
        have : (m == k) = false := by simpa using e
        rw [this]; rfl
      rw [e2]; omega
theorem mt_mtd {X : Cx} : MtR X "list.index" rMtd := by
  intro pins s σ H x xs v us Q I rx rz h
  obtain ⟨F, d, ds, j, sF, hd, rs, e, q⟩ := h
  match d, ds, e with
  | .list ys, [.int k], e =>
    obtain ⟨a, vs, rfl, ha, ra⟩ := hd.lst sF
    simp only [mtdD] at e
    cases g : intsD ys with
    | none => rw [g] at e; cases e
    | some ns =>
      rw [g] at e
      simp only at e
      cases g2 : idxI k ns 0 with
      | none => rw [g2] at e; cases e
      | some j' =>
        rw [g2] at e; cases e
        obtain ⟨k1, k2⟩ := idxI_of g2
        have := ra.ints g
        subst this
        cases rs with
        | cons r1 r2 =>
          cases r1; cases r2
          cases rz with
          | cons z1 z2 =>
            cases z2
            obtain ⟨t, rfl⟩ := z1
            obtain ⟨its, rv, hl, hz⟩ := I.list (SqL.of ha)
            cases rx
            refine PySem.SeqAt.list_index_ints (prog := X.prog) (w := X.w) hl.isList rv.ints (by rw [List.length_map] at hz; exact hz) k1 ⟨.int j', H, I.tok _, ⟨s.toks, ?_⟩, q⟩
            rw [k2, Nat.zero_add]
  | .list _, [], e => cases e
  | .list _, _ :: _ :: _, e => simp [mtdD] at e
theorem mtd_read (Z : Zt) {md : MD} {i : Nat} {as : List M} {σ : L2.St} {H : Hp} {Q : VK} (q : tE Γ CT X.K W Z (n + 1) (.mtd md i as) σ H Q) :
    ∃ x, σ[i]? = some (some x) ∧ tyV X.K "list" x H ∧ tVs Γ CT X.K W Z n as σ H fun xs H2 => rMtd x xs H2 Q := by
  obtain ⟨F, env, S, q⟩ := q
  rw [wpE_succ] at q
  unfold wpE1 at q
  dsimp only at q
  obtain ⟨d, e0, q1⟩ := optP_get q
  obtain ⟨c, q1⟩ := ckP_get q1
  have hx : ∃ v, σ[i]? = some (some v) := by
    simp only [rdv] at e0
    cases g : get env i with
    | none => rw [g] at e0; cases e0
    | some u => obtain ⟨v, e, _⟩ := S.slot i u g; exact ⟨v, e⟩
  obtain ⟨v, hv⟩ := hx
  have r0 : RO F σ v (.var i) := hv
  refine ⟨v, hv, ?_, F, env, S, wpVs_mono (wpE_mono Γ n) q1 (fun _ _ z => z) fun ds env1 q2 zs F1 H1 s1 S1 r1 => ?_⟩
  · have rd := RO.rd S same_refl r0 e0
    match md, d, c with
    | .index, .list xs, _ =>
      obtain ⟨a, vs, rfl, ha, _⟩ := rd.lst S.le
      exact .inl ⟨rfl, _, SqL.of ha⟩
  · obtain ⟨d1, e1, q3⟩ := optP_get q2
    obtain ⟨r, e2, q4⟩ := optP_get q3
    have r1' : RO F1 σ v (.var i) := hv
    have rd := RO.rd S1 same_refl r1' e1
    match md, d1, ds, e2 with
    | .index, .list xs, [.int k], e2 =>
      have e2' := e2
      simp only [mtdD] at e2
      cases g : intsD xs with
      | none => rw [g] at e2; cases e2
      | some ns =>
        rw [g] at e2
        simp only at e2
        cases g2 : idxI k ns 0 with
        | none => rw [g2] at e2; cases e2
        | some j =>
          rw [g2] at e2; cases e2
          exact ⟨F1, _, _, j, S1.le, rd, r1, e2', q4 _ _ _ s1 S1 (.int _)⟩
theorem snd_mtd (IH : SoundE Γ CT n) (ok : Ok Γ CT X W cc) (Z : Zt) {md : MD} {i : Nat} {as : List M} {e : Expr} (h : chkE (n + 1) cc (.mtd md i as) e = true) : PE X e (tE Γ CT X.K W Z (n + 1) (.mtd md i as)) := by
  cases e with
  | Call g es kws p =>
    cases g with
    | Attribute o nm ap =>
      cases o with
      | Name y yp =>
        cases kws with
        | cons k ks => cases h
        | nil =>
          obtain ⟨h, h7⟩ := and_split (show (decide (nm = mdNm md) && nameB cc i y && chkL (chkE n cc) as es && (ap.endLine == p.line) && decide (es.length < 20) && !es.isEmpty) = true from h)
          obtain ⟨h, h5⟩ := and_split h
          obtain ⟨h, h4⟩ := and_split h
          obtain ⟨h, h3⟩ := and_split h
          obtain ⟨h1, h2⟩ := and_split h
          have e1 := of_decide_eq_true h1
          subst e1
          cases md
          cases es with
          | nil => cases h7
          | cons e es =>
            have st : starEach (e :: es) X.env = (false, eval e X.env) :: starEach es X.env ∧ (backTo p (starEach es X.env)).any (·.1) = false := by
              cases as with
              | nil => cases h3
              | cons m ms =>
                obtain ⟨k1, k2⟩ := and_split h3
                exact ⟨chk_star k1 [] es _, noStar (fun m e he es => chk_star he [] es _) k2⟩
            refine PE.imp (pe_bm PySem.F.plainAttrs_list PySem.F.slot_list_index PySem.F.type_list_index mt_mtd (pe_name ok h2) (snd_Vs IH ok Z h3) rfl ?_ h4 st.1 st.2) fun σ H Q q => ?_
            · rw [noStarAll (fun m e he es => chk_star he [] es _) h3]
              have hl := of_decide_eq_true h5
              show (true && true && decide _) = true
              simp only [List.length_nil, List.isEmpty_nil, if_true, Bool.true_and, decide_eq_true_eq]
              omega
            · obtain ⟨x, hx, ty, q⟩ := mtd_read Z q
              exact ⟨x, hx, ty, q⟩
      | _ => cases h
    | _ => cases h
  | _ => cases h
theorem snd_rev (IH : SoundE Γ CT n) (ok : Ok Γ CT X W cc) (Z : Zt) {a : M} {e : Expr} (h : chkE (n + 1) cc (.rev a) e = true) : PE X e (tE Γ CT X.K W Z (n + 1) (.rev a)) := by
  match e, h with
  | .Subscript x (.Slice none none (some (.UnaryOp .USub (.Constant (.int 1) k p1) p2)) p3) pos, h =>
    refine PE.imp (pe_revX (snd_R IH ok Z (show chkE n cc a x = true from h))) fun σ H Q ⟨F, env, S, q⟩ => ?_
    rw [wpE_succ] at q
    unfold wpE1 at q
    dsimp only at q
    refine ⟨F, env, S, wpR_mono (wpE_mono Γ n) q (fun _ _ z => z) fun oa env1 q1 v F1 H1 s1 S1 r1 => ?_⟩
    obtain ⟨x, e1, q2⟩ := optP_get q1
    obtain ⟨r, e2, q3⟩ := optP_get q2
    have rd := r1.rd S1 same_refl e1
    cases x with
    | list xs =>
      obtain ⟨a, vs, rfl, ha, ra⟩ := rd.lst S1.le
      cases e2
      exact .inl ⟨a, vs, rfl, SqL.of ha, fun p hp => q3.done s1 S1 _ _ _ (Grow.own S1.le hp) ⟨p, _, rfl, hp, upd_same, S1.noneF hp, ra.reverse⟩⟩
    | tuple xs =>
      obtain ⟨a, vs, rfl, ha, fa, ra⟩ := rd.tup S1.le
      cases e2
      exact .inr ⟨a, vs, rfl, SqT.of ha, fun p hp => q3.done s1 S1 _ _ _ (Grow.froz S1.le hp) (.tup upd_same (ra.reverse.mono (same_upd (S1.noneF hp))))⟩
    | _ => cases e2
/-! the script, read -/
theorem snd_slen (IH : SoundE Γ CT n) (ok : Ok Γ CT X W cc) (Z : Zt) {i : Nat} {e : Expr} (h : chkE (n + 1) cc (.slen i) e = true) : PE X e (tE Γ CT X.K W Z (n + 1) (.slen i)) := by
  match e, h with
  | .Call (.Name x xp) [.Name y yp] [] p, h =>
    obtain ⟨h, h3⟩ := and_split (show (decide (x = "len") && gloB cc x && nameB cc i y) = true from h)
    obtain ⟨h1, h2⟩ := and_split h
    have e1 := of_decide_eq_true h1
    subst e1
    obtain ⟨gl, gd⟩ := ok.gl h2
    refine PE.imp (pe_callB call_len_seq gl (ok.blt _ (by decide)) (by decide +kernel) (pa_cons (pe_name ok h3) pa_nil) (by decide) gd) fun σ H Q ⟨F, env, S, q⟩ => ?_
    rw [wpE_succ] at q
    unfold wpE1 at q
    dsimp only at q
    cases g : get env i with
    | none => rw [g] at q; exact q.elim
    | some u =>
      cases u <;> rw [g] at q <;> first | exact q.elim | skip
      obtain ⟨v, hv, a, rfl, r2, _⟩ := S.slot i _ g
      refine ⟨.ref a, hv, a, _, rfl, .inl (Same.seq S.keep r2), ?_⟩
      rw [List.length_map]
      exact q _ F H same_refl S (.int _)
theorem snd_sidx (IH : SoundE Γ CT n) (ok : Ok Γ CT X W cc) (Z : Zt) {i : Nat} {a : M} {e : Expr} (h : chkE (n + 1) cc (.sidx i a) e = true) : PE X e (tE Γ CT X.K W Z (n + 1) (.sidx i a)) := by
  cases e with
  | Subscript x0 y p =>
    cases x0 with
    | Name x xp =>
      have hy : (∀ l u s q, y ≠ .Slice l u s q) ∧ (nameB cc i x && chkE n cc a y) = true := by
        cases y <;> first | exact ⟨fun _ _ _ _ z => (by cases z), h⟩ | cases h
      obtain ⟨h1, h2⟩ := and_split hy.2
      refine PE.imp (pe_ix ix_list (pe_name ok h1) (snd_R IH ok Z h2) (plain_ix hy.1)) fun σ H Q ⟨F, env, S, q⟩ => ?_
      rw [wpE_succ] at q
      unfold wpE1 at q
      dsimp only at q
      cases g : get env i with
      | none => rw [g] at q; exact q.elim
      | some u =>
        cases u <;> rw [g] at q <;> first | exact q.elim | skip
        rename_i ns
        obtain ⟨v, hv, b, rfl, r2, _⟩ := S.slot i _ g
        refine ⟨.ref b, hv, F, env, S, wpR_mono (wpE_mono Γ n) q (fun _ _ z => z) fun oi env1 q1 v2 F1 H1 s1 S1 r1 => ?_⟩
        obtain ⟨y, e1, q2⟩ := optP_get q1
        obtain ⟨j, e2, q3⟩ := optP_get q2
        obtain ⟨x, e3, q4⟩ := optP_get q3
        obtain ⟨c, q5⟩ := ckP_get q4
        have ey : y = .int j := by cases y <;> first | (cases e2; rfl) | cases e2
        have rd := r1.rd S1 same_refl e1
        rw [ey] at rd
        have hv2 := rd.int
        refine ⟨b, _, j, .int x, rfl, hv2, Same.seq S1.keep r2, ?_, q5 _ F1 H1 s1 S1 (.int _)⟩
        obtain ⟨k, rfl⟩ := Int.eq_ofNat_of_zero_le c
        refine atD_atI ?_
        show (ns.map V.int)[k]? = some (.int x)
        rw [List.getElem?_map, show ns[k]? = some x from e3]; rfl
    | _ => cases h
  | _ => cases h
/-! targets -/
def Agree (L : List Nat) (σ σ' : L2.St) : Prop := σ'.length = σ.length ∧ ∀ i, i ∉ L → σ'[i]? = σ[i]?
theorem Agree.refl (L : List Nat) (σ : L2.St) : Agree L σ σ := ⟨rfl, fun _ _ => rfl⟩
theorem Agree.trans {L A B : List Nat} {σ σ1 σ2 : L2.St} (a : Agree A σ σ1) (b : Agree B σ1 σ2) (h1 : ∀ i ∈ A, i ∈ L) (h2 : ∀ i ∈ B, i ∈ L) : Agree L σ σ2 :=
  ⟨b.1.trans a.1, fun i hi => (b.2 i fun z => hi (h2 i z)).trans (a.2 i fun z => hi (h1 i z))⟩
theorem bindT_reach : ∀ {k : Nat} {t : T} {d : D} {env : Env} {Q : Env → Prop}, bindT k t d env Q → ∃ e, Q e
  | 0, _, _, _, _, h => h.elim
  | k + 1, .nm i, d, env, Q, h => ⟨_, (ckP_get h).2⟩
  | k + 1, .tp ts, d, env, Q, h => by
    have go : ∀ (ts : List T) (ds : List D) (env : Env) (Q : Env → Prop), bindT.go (bindT k) ts ds env Q → ∃ e, Q e := by
      intro ts
      induction ts with
      | nil => intro ds env Q h; cases ds with | nil => exact ⟨_, h⟩ | cons _ _ => exact h.elim
      | cons t ts ih => intro ds env Q h; cases ds with
        | nil => exact h.elim
        | cons d ds => obtain ⟨e, h⟩ := bindT_reach (k := k) h; exact ih _ _ _ h
    cases d with
    | tuple ds => exact go _ _ _ _ h
    | list ds => exact go _ _ _ _ h
    | _ => exact h.elim
theorem go_len {k : Nat} : ∀ {ts : List T} {ds : List D} {env : Env} {Q : Env → Prop}, bindT.go (bindT k) ts ds env Q → ts.length = ds.length
  | [], [], _, _, _ => rfl
  | [], _ :: _, _, _, h => h.elim
  | _ :: _, [], _, _, h => h.elim
  | t :: ts, d :: ds, env, Q, h => by
    obtain ⟨e, h⟩ := bindT_reach (k := k) h
    simp [go_len h]
theorem pg_or {X : Cx} {e : Expr} {A B : TG} (h1 : PG X e A) (h2 : PG X e B) : PG X e (fun v σ H Q => A v σ H Q ∨ B v σ H Q) :=
  ⟨fun pins s σ H v u Q I r hw => hw.elim (fun z => h1.run pins s σ H v u Q I r z) fun z => h2.run pins s σ H v u Q I r z⟩
def gG (K : PySem.W.Frag) (Z : Zt) (k : Nat) (t : T) : TG := fun v σ H Q => ∃ F env d, SR K Z F H σ env ∧ Rep F v d ∧ bindT k t d env fun env' => ∀ σ', SR K Z F H σ' env' → Agree (slotsT k t) σ σ' → Q σ' H
def gGs (K : PySem.W.Frag) (Z : Zt) (k : Nat) (ts : List T) : TGs := fun vs σ H Q => ∃ F env ds, SR K Z F H σ env ∧ Reps F vs ds ∧ bindT.go (bindT k) ts ds env fun env' => ∀ σ', SR K Z F H σ' env' → Agree (ts.flatMap (slotsT k)) σ σ' → Q σ' H
theorem PG.imp {X : Cx} {e : Expr} {t t' : TG} (h : PG X e t) (f : ∀ v σ H Q, t' v σ H Q → t v σ H Q) : PG X e t' := ⟨fun pins s σ H v u Q I r q => h.run pins s σ H v u Q I r (f _ _ _ _ q)⟩
theorem PGs.imp {X : Cx} {e : List Expr} {t t' : TGs} (h : PGs X e t) (f : ∀ v σ H Q, t' v σ H Q → t v σ H Q) : PGs X e t' := ⟨fun pins s σ H v u Q I r q => h.run pins s σ H v u Q I r (f _ _ _ _ q)⟩
/-- each target stands plainly -/
theorem asg_each {k : Nat} {t : T} {e : Expr} (h : chkG cc k t e = true) (env : PySem.Env) (es : List Expr) : assignEach (e :: es) env = (false, assign e env) :: assignEach es env := by
  cases k with
  | zero => cases h
  | succ k => cases t <;> cases e <;> first | rfl | cases h
theorem asg_all {k : Nat} {env : PySem.Env} : ∀ {ts : List T} {es : List Expr}, chkG.go (chkG cc k) ts es = true → (assignEach es env).length = ts.length ∧ (assignEach es env).findIdx? (·.1) = none
  | [], [], _ => ⟨rfl, rfl⟩
  | t :: ts, e :: es, h => by
    obtain ⟨h1, h2⟩ := and_split h
    obtain ⟨a, b⟩ := asg_all (env := env) h2
    rw [asg_each h1]
    refine ⟨by simp [a], ?_⟩
    rw [List.findIdx?_cons, b]
    rfl
  | [], _ :: _, h => by cases h
  | _ :: _, [], h => by cases h
theorem snd_G (ok : Ok Γ CT X W cc) (Z : Zt) : ∀ {k : Nat} {t : T} {e : Expr}, chkG cc k t e = true → PG X e (gG X.K Z k t)
  | 0, _, _, h => by cases h
  | k + 1, .nm i, e, h => by
    cases e with
    | Name x p =>
      obtain ⟨h1, h2⟩ := and_split (show (decide (cc.N[i]? = some x) && cc.st x) = true from h)
      have hi := of_decide_eq_true h1
      rw [← ok.n] at hi
      obtain ⟨l1, l2⟩ := ok.st x h2
      refine PG.imp (pg_name ok.nd hi l1 l2) fun v σ H Q ⟨F, env, d, S, r, q⟩ => ?_
      obtain ⟨c, q⟩ := ckP_get q
      have il : i < X.N.length := (List.getElem?_eq_some_iff.mp hi).1
      by_cases il' : i < env.length
      · refine q _ (S.store il' (S.asg c) trivial r) ⟨by simp, fun j hj => ?_⟩
        exact List.getElem?_set_ne fun z => hj (by rw [← z]; exact List.mem_singleton.mpr rfl)
      · have : ∀ {env : Env} {i : Nat} {u : Option U}, ¬ i < env.length → put env i u = env := by
          intro env
          induction env with
          | nil => intro i u _; rfl
          | cons w r ih => intro i u hi; cases i with
            | zero => simp at hi
            | succ i => show w :: put r i u = _; rw [ih (by simpa using hi)]
        rw [this il'] at q
        have e1 : σ.set i (some v) = σ := List.set_eq_of_length_le (by rw [← S.len]; omega)
        show Q _ H
        rw [e1]
        exact q σ S (Agree.refl _ _)
    | _ => cases h
  | k + 1, .tp ts, e, h => by
    cases e with
    | Tuple es kk p =>
      have go : ∀ (ts : List T) (es : List Expr), chkG.go (chkG cc k) ts es = true → PGs X es (gGs X.K Z k ts) := by
        intro ts
        induction ts with
        | nil => intro es h; cases es with
          | cons _ _ => cases h
          | nil =>
            refine PGs.imp pgs_nil fun vs σ H Q ⟨F, env, ds, S, r, q⟩ => ?_
            cases ds with
            | nil => cases r; exact ⟨rfl, q σ S (Agree.refl _ _)⟩
            | cons _ _ => exact q.elim
        | cons t ts ih => intro es h; cases es with
          | nil => cases h
          | cons e es =>
            obtain ⟨h1, h2⟩ := and_split h
            refine PGs.imp (pgs_cons (snd_G ok Z h1) (ih es h2) (by rw [asg_each h1]; rfl)) fun vs σ H Q ⟨F, env, ds, S, r, q⟩ => ?_
            cases ds with
            | nil => exact q.elim
            | cons d ds =>
              cases r with
              | cons r1 r2 =>
                refine ⟨_, _, rfl, F, env, d, S, r1, bindT_mono q fun e1 q1 σ1 S1 a1 => ⟨F, e1, ds, S1, r2, ?_⟩⟩
                have gm : ∀ {ts : List T} {ds : List D} {env : Env} {Q Q' : Env → Prop}, bindT.go (bindT k) ts ds env Q → (∀ e, Q e → Q' e) → bindT.go (bindT k) ts ds env Q' := by
                  intro ts ds env Q Q' h f
                  exact bindT_mono (n := k + 1) (t := .tp ts) (d := .tuple ds) h f
                refine gm q1 fun e2 q2 σ2 S2 a2 => q2 σ2 S2 (a1.trans a2 (fun i hi => ?_) fun i hi => ?_)
                · rw [List.flatMap_cons]; exact List.mem_append_left _ hi
                · rw [List.flatMap_cons]; exact List.mem_append_right _ hi
      have hg : chkG.go (chkG cc k) ts es = true := h
      obtain ⟨l1, l2⟩ := asg_all (env := X.env) hg
      refine PG.imp (pg_or (pg_tup ok.calm (go ts es hg) l1 l2) (pg_unl ok.calm (go ts es hg) l1 l2)) fun v σ H Q ⟨F, env, d, S, r, q⟩ => ?_
      cases d with
      | tuple ds =>
        cases r with
        | tup hF rs =>
          have hl := go_len (k := k) q
          exact .inl ⟨_, _, rfl, SqT.of (S.le _ _ hF), rs.length.trans hl.symm, F, env, ds, S, rs, q⟩
      | list ds =>
        cases r with
        | lst hF rs =>
          have hl := go_len (k := k) q
          exact .inr ⟨_, _, rfl, SqL.of (S.le _ _ hF), rs.length.trans hl.symm, F, env, ds, S, rs, q⟩
      | _ => exact q.elim
    | _ => cases h
end
end GM

set_option maxRecDepth 100000
/-! GM: what is walked -/
namespace GM
open PySem PySem.Spec PyProof.Rows L2
/-- J yields ds -/
def Wk (F0 : Hp) (ds : List D) (J : It) : Prop := ∀ F H, Same F0 F → Same F H → (∀ i, i < ds.length → J.go i H ∧ ∀ x H', J.yld i H x H' → ∃ F' d, Grow F H F' H' ∧ ds[i]? = some d ∧ Rep F' x d) ∧ ∀ i, ds.length ≤ i → J.stop i H
theorem wk_list {K : PySem.W.Frag} {F : Hp} {a : Addr} {vs : List V} {ds : List D} (h : F a = some (.lst vs)) (r : Reps F vs ds) : Wk F ds (Itl K a) := fun F1 H s1 s2 => by
  have q : SqL K H a vs := SqL.of (s2 _ _ (s1 _ _ h))
  refine ⟨fun i hi => ?_, fun i hi => ⟨vs, q, by rw [r.length]; exact hi⟩⟩
  have hl : i < vs.length := by rw [r.length]; exact hi
  refine ⟨⟨vs, vs[i], q, List.getElem?_eq_getElem hl⟩, ?_⟩
  rintro x H' ⟨rfl, y⟩
  obtain ⟨d, e, rd⟩ := r.getV (y vs q)
  exact ⟨F1, d, Grow.refl s2, e, rd.mono s1⟩
theorem wk_tup {K : PySem.W.Frag} {F : Hp} {a : Addr} {vs : List V} {ds : List D} (h : F a = some (.tup vs)) (r : Reps F vs ds) : Wk F ds (Itt K a) := fun F1 H s1 s2 => by
  have q : SqT K H a vs := SqT.of (s2 _ _ (s1 _ _ h))
  refine ⟨fun i hi => ?_, fun i hi => ⟨vs, q, by rw [r.length]; exact hi⟩⟩
  have hl : i < vs.length := by rw [r.length]; exact hi
  refine ⟨⟨vs, vs[i], q, List.getElem?_eq_getElem hl⟩, ?_⟩
  rintro x H' ⟨rfl, y⟩
  obtain ⟨d, e, rd⟩ := r.getV (y vs q)
  exact ⟨F1, d, Grow.refl s2, e, rd.mono s1⟩
theorem rngI_length (lo : Int) (n : Nat) : (rngI lo n).length = n := by simp [rngI]
theorem rngI_get {lo : Int} {n i : Nat} (h : i < n) : (rngI lo n)[i]? = some (.int (lo + i)) := by simp [rngI, h]
theorem wk_rng {F : Hp} {lo : Int} {n : Nat} : Wk F (rngI lo n) (Itr lo n) := fun F1 H s1 s2 => by
  refine ⟨fun i hi => ?_, fun i hi => ?_⟩
  · rw [rngI_length] at hi
    refine ⟨hi, ?_⟩
    rintro x H' ⟨rfl, rfl⟩
    exact ⟨F1, _, Grow.refl s2, rngI_get hi, .int _⟩
  · rw [rngI_length] at hi; exact hi
theorem pairRep {F H : Hp} {T : Addr} {x y : V} {c d : D} (s : Same F H) (hT : H T = none) (rx : Rep F x c) (ry : Rep F y d) : Grow F H (upd F T (.tup [x, y])) (upd H T (.tup [x, y])) ∧ Rep (upd F T (.tup [x, y])) (.ref T) (.tuple [c, d]) := by
  have m := same_upd (o := .tup [x, y]) (noneF s hT)
  exact ⟨Grow.froz s hT, .tup upd_same (.cons (rx.mono m) (.cons (ry.mono m) .nil))⟩
theorem zipIdx_at {ds : List D} {i : Nat} {d : D} (h : ds[i]? = some d) : (ds.zipIdx.map D_pair)[i]? = some (.tuple [.int i, d]) := by
  rw [List.getElem?_map, List.getElem?_zipIdx, h]
  simp [D_pair]
theorem wk_enumL {K : PySem.W.Frag} {F : Hp} {a : Addr} {vs : List V} {ds : List D} (h : F a = some (.lst vs)) (r : Reps F vs ds) : Wk F (ds.zipIdx.map D_pair) (Ite K a) := fun F1 H s1 s2 => by
  have q : SqL K H a vs := SqL.of (s2 _ _ (s1 _ _ h))
  rw [List.length_map, List.length_zipIdx]
  refine ⟨fun i hi => ?_, fun i hi => ⟨vs, q, by rw [r.length]; exact hi⟩⟩
  have hl : i < vs.length := by rw [r.length]; exact hi
  refine ⟨⟨vs, vs[i], q, List.getElem?_eq_getElem hl⟩, ?_⟩
  rintro x H' ⟨T, y, rfl, hT, rfl, f⟩
  obtain ⟨d, e, rd⟩ := r.getV (f vs q)
  obtain ⟨g, rr⟩ := pairRep s2 hT (.int (i : Int)) (rd.mono s1)
  exact ⟨_, _, g, zipIdx_at e, rr⟩
theorem wk_enumT {K : PySem.W.Frag} {F : Hp} {a : Addr} {vs : List V} {ds : List D} (h : F a = some (.tup vs)) (r : Reps F vs ds) : Wk F (ds.zipIdx.map D_pair) (IteT K a) := fun F1 H s1 s2 => by
  have q : SqT K H a vs := SqT.of (s2 _ _ (s1 _ _ h))
  rw [List.length_map, List.length_zipIdx]
  refine ⟨fun i hi => ?_, fun i hi => ⟨vs, q, by rw [r.length]; exact hi⟩⟩
  have hl : i < vs.length := by rw [r.length]; exact hi
  refine ⟨⟨vs, vs[i], q, List.getElem?_eq_getElem hl⟩, ?_⟩
  rintro x H' ⟨T, y, rfl, hT, rfl, f⟩
  obtain ⟨d, e, rd⟩ := r.getV (f vs q)
  obtain ⟨g, rr⟩ := pairRep s2 hT (.int (i : Int)) (rd.mono s1)
  exact ⟨_, _, g, zipIdx_at e, rr⟩
theorem zip_at {ds es : List D} {i : Nat} {d e : D} (h : ds[i]? = some d) (h2 : es[i]? = some e) : ((ds.zip es).map fun p => PyData.tuple [p.1, p.2])[i]? = some (.tuple [d, e]) := by
  have : (ds.zip es)[i]? = some (d, e) := List.getElem?_zip_eq_some.mpr ⟨h, h2⟩
  rw [List.getElem?_map, this]
  rfl
theorem wk_zipL {K : PySem.W.Frag} {F : Hp} {a b : Addr} {vs ws : List V} {ds es : List D} (h : F a = some (.lst vs)) (r : Reps F vs ds) (h2 : F b = some (.lst ws)) (r2 : Reps F ws es) : Wk F ((ds.zip es).map fun p => .tuple [p.1, p.2]) (Itz K a b) := fun F1 H s1 s2 => by
  have q : SqL K H a vs := SqL.of (s2 _ _ (s1 _ _ h))
  have q2 : SqL K H b ws := SqL.of (s2 _ _ (s1 _ _ h2))
  have l1 := r.length
  have l2 := r2.length
  rw [List.length_map, List.length_zip]
  refine ⟨fun i hi => ?_, fun i hi => ⟨vs, ws, q, q2, by omega⟩⟩
  have hl : i < vs.length := by omega
  have hl2 : i < ws.length := by omega
  refine ⟨⟨vs, ws, vs[i], ws[i], q, q2, List.getElem?_eq_getElem hl, List.getElem?_eq_getElem hl2⟩, ?_⟩
  rintro x H' ⟨T, y, z, rfl, hT, rfl, f, f2⟩
  obtain ⟨d, e, rd⟩ := r.getV (f vs q)
  obtain ⟨d2, e2, rd2⟩ := r2.getV (f2 ws q2)
  obtain ⟨g, rr⟩ := pairRep s2 hT (rd.mono s1) (rd2.mono s1)
  exact ⟨_, _, g, zip_at e e2, rr⟩
theorem wk_zipT {K : PySem.W.Frag} {F : Hp} {a b : Addr} {vs ws : List V} {ds es : List D} (h : F a = some (.tup vs)) (r : Reps F vs ds) (h2 : F b = some (.tup ws)) (r2 : Reps F ws es) : Wk F ((ds.zip es).map fun p => .tuple [p.1, p.2]) (RZ.ItzT K a b) := fun F1 H s1 s2 => by
  have q : SqT K H a vs := SqT.of (s2 _ _ (s1 _ _ h))
  have q2 : SqT K H b ws := SqT.of (s2 _ _ (s1 _ _ h2))
  have l1 := r.length
  have l2 := r2.length
  rw [List.length_map, List.length_zip]
  refine ⟨fun i hi => ?_, fun i hi => ⟨vs, ws, q, q2, by omega⟩⟩
  have hl : i < vs.length := by omega
  have hl2 : i < ws.length := by omega
  refine ⟨⟨vs, ws, vs[i], ws[i], q, q2, List.getElem?_eq_getElem hl, List.getElem?_eq_getElem hl2⟩, ?_⟩
  rintro x H' ⟨T, y, z, rfl, hT, rfl, f, f2⟩
  obtain ⟨d, e, rd⟩ := r.getV (f vs q)
  obtain ⟨d2, e2, rd2⟩ := r2.getV (f2 ws q2)
  obtain ⟨g, rr⟩ := pairRep s2 hT (rd.mono s1) (rd2.mono s1)
  exact ⟨_, _, g, zip_at e e2, rr⟩
theorem wk_revL {K : PySem.W.Frag} {F : Hp} {a : Addr} {vs : List V} {ds : List D} (h : F a = some (.lst vs)) (r : Reps F vs ds) : Wk F ds.reverse (Itv K a vs.length) := fun F1 H s1 s2 => by
  have q : SqL K H a vs := SqL.of (s2 _ _ (s1 _ _ h))
  have l1 := r.length
  rw [List.length_reverse]
  refine ⟨fun i hi => ?_, fun i hi => by show vs.length ≤ i; omega⟩
  have hl : vs.length - 1 - i < vs.length := by omega
  refine ⟨⟨by omega, vs, vs[vs.length - 1 - i], q, List.getElem?_eq_getElem hl⟩, ?_⟩
  rintro x H' ⟨rfl, f⟩
  obtain ⟨d, e, rd⟩ := r.getV (f vs q)
  refine ⟨F1, d, Grow.refl s2, ?_, rd.mono s1⟩
  rw [List.getElem?_reverse hi, ← l1]
  exact e
theorem wk_revT {K : PySem.W.Frag} {F : Hp} {a : Addr} {vs : List V} {ds : List D} (h : F a = some (.tup vs)) (r : Reps F vs ds) : Wk F ds.reverse (RT.ItvT K a vs.length) := fun F1 H s1 s2 => by
  have q : SqT K H a vs := SqT.of (s2 _ _ (s1 _ _ h))
  have l1 := r.length
  rw [List.length_reverse]
  refine ⟨fun i hi => ?_, fun i hi => by show vs.length ≤ i; omega⟩
  have hl : vs.length - 1 - i < vs.length := by omega
  refine ⟨⟨by omega, vs, vs[vs.length - 1 - i], q, List.getElem?_eq_getElem hl⟩, ?_⟩
  rintro x H' ⟨rfl, f⟩
  obtain ⟨d, e, rd⟩ := r.getV (f vs q)
  refine ⟨F1, d, Grow.refl s2, ?_, rd.mono s1⟩
  rw [List.getElem?_reverse hi, ← l1]
  exact e
section
variable {Γ : Nat → Option FS} {CT : CTab} {X : Cx} {W : WX} {cc : CC} {Z : Zt} {n : Nat} {tg : Expr}
theorem PI.imp {e : Expr} {t t' : TI} (h : PI X tg e t) (f : ∀ σ H R, t' σ H R → t σ H R) : PI X tg e t' := ⟨fun pins s σ H R I q => h.run pins s σ H R I (f _ _ _ q)⟩
/-- a list or a tuple -/
theorem pi_seq {l : Expr} {tl : TE} (hl : PE X l tl) : PI X tg l (fun σ H R => tl σ H fun x H1 => ∃ a, x = .ref a ∧ ((∃ xs, SqL X.K H1 a xs ∧ R (Itl X.K a) H1) ∨ ∃ xs, SqT X.K H1 a xs ∧ R (Itt X.K a) H1)) := by
  constructor
  intro pins s σ H R I0 h0
  have end_ : ∀ {s1 : Shared} {H1 : Hp} {o : Obj}, Inv X pins σ H1 s1 → Inv X pins σ H1 { s1 with heap := s1.heap.push o } ∧ ∀ b ∈ [s1.heap.objs.size], FpOk X pins H1 b := fun {s1 H1 o} I1 =>
    ⟨I1.kept (t' := s1.toks) fun b u e => Heap.get?_push_of_some _ e, fun b hb => by
      rw [List.mem_singleton.mp hb]
      exact I1.fpOk (Nat.le_refl _) (I1.hok.fresh (Nat.le_refl _))⟩
  have main := hl.run pins s σ H _ I0 h0
  refine thn main ?_
  rintro v s1 ⟨x, H1, I1, r1, a, ex, alt⟩
  subst ex
  cases r1
  rcases alt with ⟨xs, sq, fin⟩ | ⟨xs, sq, fin⟩
  · obtain ⟨its, _, at1, _⟩ := I1.list sq
    refine wpAny_pyIter_list at1.isList ⟨_, _, _, _, H1, rfl, (end_ I1).1, turn_list a _, ?_, (end_ (o := default) I1).2, fin⟩
    exact ⟨_, Heap.get?_push_size _ rfl, rfl, rfl⟩
  · obtain ⟨its, _, at1, _⟩ := I1.tuple sq
    have at2 : s1.heap.IsTuple a its.toArray := at1
    refine wpAny_pyIter_tuple at2 ⟨_, _, _, _, H1, rfl, (end_ I1).1, turn_tuple a _, ?_, (end_ (o := default) I1).2, fin⟩
    exact ⟨_, Heap.get?_push_size _ rfl, rfl, rfl⟩
def iG (Γ : Nat → Option FS) (CT : CTab) (K : PySem.W.Frag) (W : WX) (Z : Zt) (n : Nat) (m : M) : TI := fun σ H R => ∃ F env, SR K Z F H σ env ∧ wpI (wpE Γ n) m env (PX CT K W Z σ F) fun ds env' => ∀ J F' H', Same F F' → SR K Z F' H' σ env' → Wk F' ds J → R J H'
theorem fold_ok {e : Expr} {env : PySem.Env} (h : notSet e = true) : ∀ x, foldedSetIterable e env x = pure x := fun x => by
  cases e <;> first | rfl | cases h
theorem Rds.ints1 {F H : Hp} {vs : List V} {i : Int} (h : Rds F H vs [.int i]) : vs = [.int i] := by
  cases h with | cons a t => cases t; rw [a.int]
theorem Rds.ints2 {F H : Hp} {vs : List V} {i j : Int} (h : Rds F H vs [.int i, .int j]) : vs = [.int i, .int j] := by
  cases h with | cons a t => cases t with | cons b t => cases t; rw [a.int, b.int]
theorem wpOs_len {rec : WE} (MR : MonoE rec) : ∀ {ms : List M} {env : Env} {Qx : QX} {Q : List Op → Env → Prop}, wpOs rec ms env Qx Q → wpOs rec ms env Qx fun ds e => ds.length = ms.length ∧ Q ds e
  | [], _, _, _, h => ⟨rfl, h⟩
  | m :: ms, _, _, _, h => by
    rw [wpOs_cons] at h ⊢
    exact wpR_mono MR h (fun _ _ z => z) fun _ _ h1 => wpOs_mono (fx := True) MR (wpOs_len MR h1) (fun _ _ z => z) fun _ _ ⟨e, q⟩ => ⟨by simp [e], q⟩
theorem rdvs_len {env : Env} : ∀ {os : List Op} {ds : List D}, rdvs env os = some ds → ds.length = os.length
  | [], _, e => by cases e; rfl
  | o :: os, ds, e => by
    simp only [rdvs] at e
    cases q : rdv env o with
    | none => rw [q] at e; cases e
    | some d =>
      rw [q] at e
      cases q2 : rdvs env os with
      | none => rw [q2] at e; cases e
      | some ds' => rw [q2] at e; cases e; simp [rdvs_len q2]
theorem frz_seq2 {σ : L2.St} {K : PySem.W.Frag} {F1 H1 : Hp} {env1 : GM.Env} {u : U} {v : V} {d : D} {ds : List D} (S1 : SR K Z F1 H1 σ env1) (r1 : RU Z F1 H1 σ env1 v u) (e0 : u.fz = some d) (e1 : seqD d = some ds) :
    ∃ F2 vs, Same F1 F2 ∧ SR K Z F2 H1 σ env1 ∧ ((∃ b, v = .ref b ∧ F2 b = some (.lst vs) ∧ Reps F2 vs ds ∧ isL d = true) ∨ ∃ b, v = .ref b ∧ F2 b = some (.tup vs) ∧ Reps F2 vs ds ∧ isL d = false) := by
  obtain ⟨F2, s2, S2, r2⟩ := RU.fz S1 r1 e0
  cases d with
  | list xs =>
    cases r2 with
    | lst ha ra =>
      obtain rfl : xs = ds := by cases e1; rfl
      exact ⟨F2, _, s2, S2, .inl ⟨_, rfl, ha, ra, rfl⟩⟩
  | tuple xs =>
    cases r2 with
    | tup ha ra =>
      obtain rfl : xs = ds := by cases e1; rfl
      exact ⟨F2, _, s2, S2, .inr ⟨_, rfl, ha, ra, rfl⟩⟩
  | _ => cases e1
theorem frz_seq {σ : L2.St} {K : PySem.W.Frag} {F1 H1 : Hp} {env1 : GM.Env} {u : U} {v : V} {ds : List D} (S1 : SR K Z F1 H1 σ env1) (r1 : RU Z F1 H1 σ env1 v u) (e1 : u.fz.bind seqD = some ds) :
    ∃ F2 vs, Same F1 F2 ∧ SR K Z F2 H1 σ env1 ∧ ((∃ b, v = .ref b ∧ F2 b = some (.lst vs) ∧ Reps F2 vs ds) ∨ ∃ b, v = .ref b ∧ F2 b = some (.tup vs) ∧ Reps F2 vs ds) := by
  cases e2 : u.fz with
  | none => rw [e2] at e1; cases e1
  | some d =>
    rw [e2] at e1
    obtain ⟨F2, vs, s2, S2, alt⟩ := frz_seq2 S1 r1 e2 e1
    rcases alt with ⟨b, h1, h2, h3, _⟩ | ⟨b, h1, h2, h3, _⟩
    · exact ⟨F2, vs, s2, S2, .inl ⟨b, h1, h2, h3⟩⟩
    · exact ⟨F2, vs, s2, S2, .inr ⟨b, h1, h2, h3⟩⟩
theorem snd_I (IH : SoundE Γ CT n) (ok : Ok Γ CT X W cc) (Z : Zt) {m : M} {e : Expr} (h : chkI cc (chkE n cc) tg m e = true) : PI X tg e (iG Γ CT X.K W Z n m) ∧ notSet e = true := by
  by_cases hr : ∃ as, m = .irng as
  · obtain ⟨as, rfl⟩ := hr
    cases e with
    | Call g es kws p =>
      cases g with
      | Name x xp =>
        cases kws with
        | cons _ _ => cases h
        | nil =>
          obtain ⟨h, h4⟩ := and_split (show (decide (x = "range") && gloB cc x && chkL (chkE n cc) as es && (decide (es.length = 1) || decide (es.length = 2))) = true from h)
          obtain ⟨h, h3⟩ := and_split h
          obtain ⟨h1, h2⟩ := and_split h
          have ex := of_decide_eq_true h1
          subst ex
          obtain ⟨gl, gd⟩ := ok.gl h2
          have pa := snd_Os IH ok Z h3
          have hm : X.mg "range" = none := ok.blt _ (by decide)
          refine ⟨?_, rfl⟩
          have read : ∀ (σ : L2.St) (H : Hp) (R : It → Hp → Prop), iG Γ CT X.K W Z n (.irng as) σ H R → tOs Γ CT X.K W Z n as σ H fun vs H1 => as.length = vs.length ∧ ((∃ k : Int, vs = [.int k] ∧ -(2 ^ 62) ≤ k ∧ k < 2 ^ 62 ∧ R (Itr 0 k.toNat) H1) ∨
              (∃ a b : Int, vs = [.int a, .int b] ∧ (-(2 ^ 62) ≤ a ∧ a < 2 ^ 62 ∧ -(2 ^ 62) ≤ b ∧ b < 2 ^ 62) ∧ R (Itr a (b - a).toNat) H1) ∨ vs.length = 3) := by
            rintro σ H R ⟨F, env, S, q⟩
            unfold wpI at q
            dsimp only at q
            refine ⟨F, env, S, wpOs_mono (wpE_mono Γ n) (fx := True) (wpOs_len (wpE_mono Γ n) q) (fun _ _ z => z) fun os env1 ⟨el, q1⟩ vs F1 H1 s1 S1 r1 => ?_⟩
            obtain ⟨ds, e1, q2⟩ := optP_get q1
            have e3 := rdvs_len e1
            have rr := r1.rds S1 same_refl e1
            have ev : as.length = vs.length := by rw [rr.length, e3, el]
            refine ⟨ev, ?_⟩
            split at q2
            · obtain ⟨c, q3⟩ := ckP_get q2
              exact .inl ⟨_, rr.ints1, c.1, c.2, q3 _ _ _ s1 S1 wk_rng⟩
            · obtain ⟨c, q3⟩ := ckP_get q2
              exact .inr (.inl ⟨_, _, rr.ints2, c, q3 _ _ _ s1 S1 wk_rng⟩)
            · exact .inr (.inr (by rw [rr.length]; rfl))
            · exact q2.elim
          have el := chkL_len h3
          match es, el, h3, h4, pa with
          | [a], el, h3, h4, pa =>
            match as, h3, pa, read, el with
            | [m1], h3, pa, read, el =>
              obtain ⟨k1, _⟩ := and_split h3
              refine PI.imp (pi_range1 gl hm pa (chk_star k1 [] [] _)) fun σ H R q => ?_
              obtain ⟨F, env, S, q⟩ := read _ _ _ q
              refine ⟨F, env, S, wpOs_mono (wpE_mono Γ n) (fx := True) q (fun _ _ z => z) fun os env1 q1 vs F1 H1 s1 S1 r1 => ?_⟩
              obtain ⟨l, q2 | ⟨a, b, rfl, _⟩ | l2⟩ := q1 vs F1 H1 s1 S1 r1
              · exact q2
              · cases l
              · rw [l2] at l; cases l
          | [a, b], el, h3, h4, pa =>
            match as, h3, pa, read, el with
            | [m1, m2], h3, pa, read, el =>
              obtain ⟨k1, k2⟩ := and_split h3
              obtain ⟨k2, _⟩ := and_split k2
              refine PI.imp (pi_range2 gl hm pa (by rw [chk_star k1 [] _ _, chk_star k2 [] _ _]; rfl) (chk_star k2 [] [] _)) fun σ H R q => ?_
              obtain ⟨F, env, S, q⟩ := read _ _ _ q
              refine ⟨F, env, S, wpOs_mono (wpE_mono Γ n) (fx := True) q (fun _ _ z => z) fun os env1 q1 vs F1 H1 s1 S1 r1 => ?_⟩
              obtain ⟨l, ⟨k, rfl, _⟩ | q2 | l2⟩ := q1 vs F1 H1 s1 S1 r1
              · cases l
              · exact q2
              · rw [l2] at l; cases l
          | [], el, h3, h4, pa => cases h4
          | _ :: _ :: _ :: _, el, h3, h4, pa => simp at h4
      | _ => cases h
    | _ => cases h
  by_cases hen : ∃ a, m = .ienum a
  · obtain ⟨a, rfl⟩ := hen
    match e, h with
    | .Call (.Name x xp) [y] [] p, h =>
      obtain ⟨h, h4⟩ := and_split (show (decide (x = "enumerate") && gloB cc x && chkE n cc a y && isTupE tg) = true from h)
      obtain ⟨h, h3⟩ := and_split h
      obtain ⟨h1, h2⟩ := and_split h
      have ex := of_decide_eq_true h1
      subst ex
      obtain ⟨gl, gd⟩ := ok.gl h2
      match tg, h4 with
      | .Tuple elts kk tpos, _ =>
        refine ⟨PI.imp (pi_enumA gl (ok.blt _ (by decide)) (pa_cons (IH cc X W ok Z a y h3) pa_nil (chk_star h3 [] [] _)) (chk_star h3 [] [] _)) fun σ H R ⟨F, env, S, q⟩ => ⟨F, env, S, ?_⟩, rfl⟩
        have q' : wpE Γ n a env (PX CT X.K W Z σ F) fun u env1 => optP (u.fz.bind seqD) fun ds => ∀ J F' H', Same F F' → SR X.K Z F' H' σ env1 → Wk F' (ds.zipIdx.map D_pair) J → R J H' := q
        refine wpE_mono Γ n _ _ _ _ _ _ q' (fun _ _ z => z) fun u env1 q1 v F1 H1 s1 S1 r1 => ?_
        obtain ⟨ds, e1, q2⟩ := optP_get q1
        obtain ⟨F2, vs, s2, S2, alt⟩ := frz_seq S1 r1 e1
        rcases alt with ⟨b, rfl, hb, rb⟩ | ⟨b, rfl, hb, rb⟩
        · exact ⟨b, vs, rfl, .inl ⟨SqL.of (S2.le _ _ hb), q2 _ F2 H1 (s1.trans s2) S2 (wk_enumL hb rb)⟩⟩
        · exact ⟨b, vs, rfl, .inr ⟨SqT.of (S2.le _ _ hb), q2 _ F2 H1 (s1.trans s2) S2 (wk_enumT hb rb)⟩⟩
  by_cases hrv : ∃ a, m = .irev a
  · obtain ⟨a, rfl⟩ := hrv
    match e, h with
    | .Call (.Name x xp) [y] [] p, h =>
      obtain ⟨h, h3⟩ := and_split (show (decide (x = "reversed") && gloB cc x && chkE n cc a y) = true from h)
      obtain ⟨h1, h2⟩ := and_split h
      have ex := of_decide_eq_true h1
      subst ex
      obtain ⟨gl, gd⟩ := ok.gl h2
      refine ⟨PI.imp (RT.pi_revA gl (ok.blt _ (by decide)) (IH cc X W ok Z a y h3) (chk_star h3 [] [] _)) fun σ H R ⟨F, env, S, q⟩ => ⟨F, env, S, ?_⟩, rfl⟩
      have q' : wpE Γ n a env (PX CT X.K W Z σ F) fun u env1 => optP (u.fz.bind seqD) fun ds => ∀ J F' H', Same F F' → SR X.K Z F' H' σ env1 → Wk F' ds.reverse J → R J H' := q
      refine wpE_mono Γ n _ _ _ _ _ _ q' (fun _ _ z => z) fun u env1 q1 v F1 H1 s1 S1 r1 => ?_
      obtain ⟨ds, e1, q2⟩ := optP_get q1
      obtain ⟨F2, vs, s2, S2, alt⟩ := frz_seq S1 r1 e1
      rcases alt with ⟨b, rfl, hb, rb⟩ | ⟨b, rfl, hb, rb⟩
      · exact ⟨b, vs, rfl, .inl ⟨SqL.of (S2.le _ _ hb), q2 _ F2 H1 (s1.trans s2) S2 (wk_revL hb rb)⟩⟩
      · exact ⟨b, vs, rfl, .inr ⟨SqT.of (S2.le _ _ hb), q2 _ F2 H1 (s1.trans s2) S2 (wk_revT hb rb)⟩⟩
  by_cases hzp : ∃ a b, m = .izip a b
  · obtain ⟨a, b, rfl⟩ := hzp
    match e, h with
    | .Call (.Name x xp) [y, z] [] p, h =>
      obtain ⟨h, h5⟩ := and_split (show (decide (x = "zip") && gloB cc x && chkE n cc a y && chkE n cc b z && isTupE tg) = true from h)
      obtain ⟨h, h4⟩ := and_split h
      obtain ⟨h, h3⟩ := and_split h
      obtain ⟨h1, h2⟩ := and_split h
      have ex := of_decide_eq_true h1
      subst ex
      obtain ⟨gl, gd⟩ := ok.gl h2
      match tg, h5 with
      | .Tuple elts kk tpos, _ =>
        refine ⟨PI.imp (RZ.pi_zipA gl (ok.blt _ (by decide)) (pa_cons (IH cc X W ok Z a y h3) (pa_cons (IH cc X W ok Z b z h4) pa_nil (chk_star h4 [] [] _)) (chk_star h3 [] [z] _)) (chk_star h3 [] [z] _) (by rw [chk_star h4 [] [] _]; rfl)) fun σ H R ⟨F, env, S, q⟩ => ⟨F, env, S, ?_⟩, rfl⟩
        have q' : wpE Γ n a env (PX CT X.K W Z σ F) fun u env1 => optP u.fz fun d => optP (seqD d) fun ds => wpE Γ n b env1 (PX CT X.K W Z σ F) fun w env2 => optP w.fz fun e => optP (seqD e) fun es => ckP (isL d = isL e) (∀ J F' H', Same F F' → SR X.K Z F' H' σ env2 → Wk F' ((ds.zip es).map fun p => .tuple [p.1, p.2]) J → R J H') := q
        refine wpE_mono Γ n _ _ _ _ _ _ q' (fun _ _ z => z) fun u env1 q1 v F1 H1 s1 S1 r1 => ?_
        obtain ⟨d, e0, q1⟩ := optP_get q1
        obtain ⟨ds, e1, q2⟩ := optP_get q1
        obtain ⟨F2, vs, s2, S2, alt⟩ := frz_seq2 S1 r1 e0 e1
        refine ⟨F2, env1, S2, wpE_mono Γ n _ _ _ _ _ _ q2 (PX.lift (s1.trans s2)) fun w env2 q3 v2 F3 H3 s3 S3 r3 => ?_⟩
        obtain ⟨d2, e02, q3⟩ := optP_get q3
        obtain ⟨es, e2, q4⟩ := optP_get q3
        obtain ⟨c, q5⟩ := ckP_get q4
        obtain ⟨F4, ws, s4, S4, alt2⟩ := frz_seq2 S3 r3 e02 e2
        have up := s3.trans s4
        rcases alt with ⟨b, rfl, hb, rb, k1⟩ | ⟨b, rfl, hb, rb, k1⟩ <;> rcases alt2 with ⟨b2, rfl, hb2, rb2, k2⟩ | ⟨b2, rfl, hb2, rb2, k2⟩
        · exact ⟨b, b2, vs, ws, rfl, .inl ⟨SqL.of (S4.le _ _ (up _ _ hb)), SqL.of (S4.le _ _ hb2), q5 _ F4 H3 ((s1.trans s2).trans up) S4 (wk_zipL (up _ _ hb) (rb.mono up) hb2 rb2)⟩⟩
        · rw [k1, k2] at c; cases c
        · rw [k1, k2] at c; cases c
        · exact ⟨b, b2, vs, ws, rfl, .inr ⟨SqT.of (S4.le _ _ (up _ _ hb)), SqT.of (S4.le _ _ hb2), q5 _ F4 H3 ((s1.trans s2).trans up) S4 (wk_zipT (up _ _ hb) (rb.mono up) hb2 rb2)⟩⟩
  · have h' : (chkE n cc m e && notSet e) = true := by
      cases m <;> first | exact h | (cases h; done) | exact absurd ⟨_, rfl⟩ hr | exact absurd ⟨_, rfl⟩ hen | exact absurd ⟨_, rfl⟩ hrv | exact absurd ⟨_, _, rfl⟩ hzp
    obtain ⟨h1, h2⟩ := and_split h'
    refine ⟨PI.imp (pi_seq (IH cc X W ok Z m e h1)) fun σ H R ⟨F, env, S, q⟩ => ⟨F, env, S, ?_⟩, h2⟩
    have q' : wpE Γ n m env (PX CT X.K W Z σ F) fun u env1 => optP (u.fz.bind seqD) fun ds => ∀ J F' H', Same F F' → SR X.K Z F' H' σ env1 → Wk F' ds J → R J H' := by
      cases m <;> first | exact q | (cases h; done) | exact absurd ⟨_, rfl⟩ hr | exact absurd ⟨_, rfl⟩ hen | exact absurd ⟨_, rfl⟩ hrv | exact absurd ⟨_, _, rfl⟩ hzp
    refine wpE_mono Γ n _ _ _ _ _ _ q' (fun _ _ z => z) fun u env1 q1 v F1 H1 s1 S1 r1 => ?_
    obtain ⟨ds, e1, q2⟩ := optP_get q1
    cases e2 : u.fz with
    | none => rw [e2] at e1; cases e1
    | some d =>
      rw [e2] at e1
      obtain ⟨F2, s2, S2, r2⟩ := RU.fz S1 r1 e2
      cases d with
      | list xs =>
        cases r2 with
        | lst ha ra =>
          obtain rfl : xs = ds := by cases e1; rfl
          exact ⟨_, rfl, .inl ⟨_, SqL.of (S2.le _ _ ha), q2 _ F2 H1 (s1.trans s2) S2 (wk_list ha ra)⟩⟩
      | tuple xs =>
        cases r2 with
        | tup ha ra =>
          obtain rfl : xs = ds := by cases e1; rfl
          exact ⟨_, rfl, .inr ⟨_, SqT.of (S2.le _ _ ha), q2 _ F2 H1 (s1.trans s2) S2 (wk_tup ha ra)⟩⟩
      | _ => cases e1
end
end GM

set_option maxRecDepth 100000
/-! GM: comprehensions -/
namespace GM
open PySem PySem.Spec PyProof.Rows L2
/-! slots forgotten -/
theorem wipe_out {σ : L2.St} {i : Nat} : ∀ {vs : List Nat}, i ∉ vs → (wipe σ vs)[i]? = σ[i]?
  | [], _ => rfl
  | v :: vs, h => by
    unfold wipe
    rw [List.getElem?_set_ne (fun z => h (by rw [z]; exact List.mem_cons_self))]
    exact wipe_out fun z => h (List.mem_cons_of_mem _ z)
theorem wipe_in {σ : L2.St} {i : Nat} (hi : i < σ.length) : ∀ {vs : List Nat}, i ∈ vs → (wipe σ vs)[i]? = some none
  | v :: vs, h => by
    unfold wipe
    by_cases e : v = i
    · subst e
      exact List.getElem?_set_self (by rw [wipe_length]; exact hi)
    · rw [List.getElem?_set_ne e]
      rcases List.mem_cons.mp h with z | z
      · exact absurd z.symm e
      · exact wipe_in hi z
theorem wipe_agree {σ σ2 : L2.St} {L vs : List Nat} (a : Agree L (wipe σ vs) σ2) (h : ∀ i ∈ L, i ∈ vs) : wipe σ2 vs = wipe σ vs := by
  have hl : σ2.length = σ.length := by rw [a.1, wipe_length]
  apply List.ext_getElem?
  intro i
  by_cases hv : i ∈ vs
  · by_cases hi : i < σ.length
    · rw [wipe_in hi hv, wipe_in (by rw [hl]; exact hi) hv]
    · rw [List.getElem?_eq_none (by rw [wipe_length]; omega), List.getElem?_eq_none (by rw [wipe_length]; omega)]
  · rw [wipe_out hv, a.2 i fun z => hv (h i z)]
theorem wipes_length : ∀ (is : List Nat) (env : Env), (wipes is env).length = env.length
  | [], _ => rfl
  | i :: is, env => by show (put (wipes is env) i none).length = _; rw [put_length, wipes_length is env]
theorem puts_out {e0 : Env} {j : Nat} : ∀ {is : List Nat} {e : Env}, j ∉ is → get (puts e0 is e) j = get e j
  | [], _, _ => rfl
  | i :: is, e, h => by
    show get (put (puts e0 is e) i _) j = _
    rw [get_put_ne (fun z => h (by rw [z]; exact List.mem_cons_self))]
    exact puts_out fun z => h (List.mem_cons_of_mem _ z)
theorem puts_in {e0 : Env} {j : Nat} : ∀ {is : List Nat} {e : Env}, j ∈ is → j < e.length → get (puts e0 is e) j = get e0 j
  | i :: is, e, h, hl => by
    show get (put (puts e0 is e) i _) j = _
    by_cases c : i = j
    · subst c
      have : ∀ (is : List Nat) (e : Env), (puts e0 is e).length = e.length := by
        intro is
        induction is with
        | nil => intro _; rfl
        | cons i is ih => intro e; show (put (puts e0 is e) i _).length = _; rw [put_length, ih]
      rw [get_put_same (by rw [this]; exact hl)]
    · rw [get_put_ne c]
      rcases List.mem_cons.mp h with z | z
      · exact absurd z.symm c
      · exact puts_in z hl
theorem puts_length (e0 : Env) : ∀ (is : List Nat) (e : Env), (puts e0 is e).length = e.length
  | [], _ => rfl
  | i :: is, e => by show (put (puts e0 is e) i _).length = _; rw [put_length, puts_length e0 is e]
theorem get_none_ge {env : Env} {j : Nat} (h : ¬ j < env.length) : get env j = none := by
  cases q : get env j with
  | none => rfl
  | some u => exact absurd (get_some_lt q) h
theorem plainAll_at {env : Env} : ∀ {is : List Nat}, plainAll env is → ∀ i ∈ is, plainAt env i
  | _ :: _, h, i, m => by
    rcases List.mem_cons.mp m with z | z
    · rw [z]; exact h.1
    · exact plainAll_at h.2 i z
theorem plain_at {env1 : Env} {own : List Nat} (p : plainAll env1 own) {i : Nat} {u : U} (hi : i ∈ own) (g : get env1 i = some u) : ∃ d, u = .v d := by
  have q := plainAll_at p i hi
  unfold plainAt at q
  rw [g] at q
  cases u with
  | v d => exact ⟨d, rfl⟩
  | _ => exact q.elim
theorem own_puts {env1 e : Env} {own : List Nat} (p : plainAll env1 own) {i : Nat} (o : Own (puts env1 own e) i) : i ∉ own ∧ Own e i := by
  by_cases hi : i ∈ own
  · exfalso
    have hlt : i < e.length := by
      rcases o with ⟨xs, g⟩ | ⟨xs, g⟩ <;> (have := get_some_lt g; rwa [puts_length] at this)
    rcases o with ⟨xs, g⟩ | ⟨xs, g⟩ <;> (rw [puts_in hi hlt] at g; obtain ⟨d, z⟩ := plain_at p hi g; cases z)
  · refine ⟨hi, ?_⟩
    rcases o with ⟨xs, g⟩ | ⟨xs, g⟩
    · rw [puts_out hi] at g; exact .inl ⟨xs, g⟩
    · rw [puts_out hi] at g; exact .inr ⟨xs, g⟩
def ZP (Z : Zt) (a : Addr) (vs : List V) : Zt := { Z with P := upd Z.P a (.lst vs) }
section
variable {K : PySem.W.Frag} {Z : Zt} {F H F' H' : Hp} {σ : L2.St} {env : Env}
theorem SR.plain (S : SR K Z F H σ env) {i : Nat} (h : plainAt env i) : Z.X i = none := by
  cases q : Z.X i with
  | none => rfl
  | some a =>
    obtain ⟨⟨xs, g⟩, _⟩ := S.ref i a q
    unfold plainAt at h
    rw [g] at h
    exact h.elim
theorem SR.wipes (S : SR K Z F H σ env) : ∀ {is : List Nat}, (∀ i ∈ is, Z.X i = none) → SR K Z F H (wipe σ is) (GM.wipes is env)
  | [], _ => S
  | i :: is, h => by
    unfold wipe
    exact SR.forget (h i List.mem_cons_self) (SR.wipes S fun j m => h j (List.mem_cons_of_mem _ m))
/-- a new list is laid that the walk holds -/
theorem SR.lay (S : SR K Z F H σ env) {a : Addr} (ha : H a = none) (vs : List V) : SR K (ZP Z a vs) F (upd H a (.lst vs)) σ env := by
  have S1 := S.grow (Grow.own (o := .lst vs) S.le ha)
  have hF := S.noneF ha
  refine ⟨S1.len, S1.le, fun b x e => ?_, S1.base, fun b h => ?_, S1.dom, fun i u g => ?_, S1.dis, S1.ref⟩
  · have e : upd Z.P a (.lst vs) b = some x := e
    by_cases hb : b = a
    · subst hb; rw [upd_same] at e ⊢; exact e
    · rw [upd_ne hb] at e ⊢; exact S.keep _ _ e
  · rcases S1.new b h with z | z
    · exact .inl z
    · refine .inr ⟨z.1, ?_⟩
      have hb : b ≠ a := fun z => h (by rw [z]; exact hF)
      show upd Z.P a (.lst vs) b = none
      rw [upd_ne hb]; exact z.2
  · obtain ⟨v, e, r⟩ := S.slot i u g
    refine ⟨v, e, ?_⟩
    have nb : ∀ {b : Addr} {x : HO}, H b = some x → b ≠ a := fun {b x} e z => by rw [z, ha] at e; cases e
    cases u with
    | v d => exact r
    | o xs => obtain ⟨b, ws, rfl, k1, k2, k3, k4, k5⟩ := r; exact ⟨b, ws, rfl, by rw [upd_ne (nb k1)]; exact k1, k2, k3, k4, by show upd Z.P a (.lst vs) b = none; rw [upd_ne (nb k1)]; exact k5⟩
    | r xs => obtain ⟨b, ws, rfl, k1, k2, k3, k4, k5⟩ := r; exact ⟨b, ws, rfl, by rw [upd_ne (nb k1)]; exact k1, k2, k3, k4, by show upd Z.P a (.lst vs) b = none; rw [upd_ne (nb k1)]; exact k5⟩
    | s ns => obtain ⟨b, rfl, k1, k2⟩ := r; exact ⟨b, rfl, Same.seq (same_upd (S.noneP ha)) k1, k2⟩
    | x c fs => exact r
/-- the held list is changed -/
theorem SR.turn {a : Addr} {vs : List V} (S : SR K (ZP Z a vs) F H σ env) (hZ : Z.F a = none) (hN : Z.N a) (ws : List V) : SR K (ZP Z a ws) F (upd H a (.lst ws)) σ env := by
  have hF : F a = none := by
    cases q : F a with
    | none => rfl
    | some x =>
      rcases S.new a (by rw [q]; simp) with z | ⟨_, z⟩
      · exact absurd hZ z
      · have z : upd Z.P a (.lst vs) a = none := z
        rw [upd_same] at z; cases z
  have pz : ∀ {b : Addr}, (ZP Z a vs).P b = none → b ≠ a := fun {b} e z => by
    have e : upd Z.P a (.lst vs) b = none := e
    rw [z, upd_same] at e; cases e
  have pn : ∀ {b : Addr}, b ≠ a → (ZP Z a ws).P b = (ZP Z a vs).P b := fun {b} hb => by
    show upd Z.P a (.lst ws) b = upd Z.P a (.lst vs) b
    rw [upd_ne hb, upd_ne hb]
  refine ⟨S.len, same_updF S.le hF, fun b x e => ?_, S.base, fun b h => ?_, fun b h => ?_, fun i u g => ?_, S.dis, S.ref⟩
  · by_cases hb : b = a
    · subst hb
      have e : upd Z.P b (.lst ws) b = some x := e
      rw [upd_same] at e ⊢; exact e
    · rw [pn hb] at e; rw [upd_ne hb]; exact S.keep _ _ e
  · have hb : b ≠ a := fun z => h (by rw [z]; exact hF)
    rcases S.new b h with z | z
    · exact .inl z
    · exact .inr ⟨z.1, by rw [pn hb]; exact z.2⟩
  · by_cases hb : b = a
    · subst hb; rw [upd_same] at h; cases h
    · rw [upd_ne hb] at h; exact S.dom b h
  · obtain ⟨v, e, r⟩ := S.slot i u g
    refine ⟨v, e, ?_⟩
    cases u with
    | v d => exact r
    | o xs => obtain ⟨b, us, rfl, k1, k2, k3, k4, k5⟩ := r; exact ⟨b, us, rfl, by rw [upd_ne (pz k5)]; exact k1, k2, k3, k4, by rw [pn (pz k5)]; exact k5⟩
    | r xs => obtain ⟨b, us, rfl, k1, k2, k3, k4, k5⟩ := r; exact ⟨b, us, rfl, by rw [upd_ne (pz k5)]; exact k1, k2, k3, k4, by rw [pn (pz k5)]; exact k5⟩
    | s ns =>
      obtain ⟨b, rfl, k1, k2, k3⟩ := r
      refine ⟨b, rfl, ?_, k2, k3⟩
      by_cases hb : b = a
      · subst hb; exact Same.seq (fun _ _ z => by cases z) (k3 hN)
      · rcases k1 with (h | ⟨o, h⟩) | h
        · exact .inl (.inl (by rw [pn hb]; exact h))
        · exact .inl (.inr ⟨o, by rw [pn hb]; exact h⟩)
        · exact .inr h
    | x c fs => exact r
theorem SR.out {a : Addr} {vs : List V} (S : SR K (ZP Z a vs) F H σ env) (hZ : Z.F a = none) (hP : Z.P a = none) (hN : Z.N a) : SR K Z F H σ env ∧ H a = some (.lst vs) ∧ F a = none ∧ ∀ i, Own env i → σ[i]? ≠ some (some (.ref a)) := by
  have hF : F a = none := by
    cases q : F a with
    | none => rfl
    | some x =>
      rcases S.new a (by rw [q]; simp) with z | ⟨_, z⟩
      · exact absurd hZ z
      · have z : upd Z.P a (.lst vs) a = none := z
        rw [upd_same] at z; cases z
  have pz : ∀ {b : Addr}, (ZP Z a vs).P b = none → b ≠ a ∧ Z.P b = none := fun {b} e => by
    have e : upd Z.P a (.lst vs) b = none := e
    have hb : b ≠ a := fun z => by rw [z, upd_same] at e; cases e
    exact ⟨hb, by rw [upd_ne hb] at e; exact e⟩
  have up : Same Z.P (ZP Z a vs).P := same_upd hP
  refine ⟨⟨S.len, S.le, fun b x e => S.keep _ _ (up _ _ e), S.base, fun b h => ?_, S.dom, fun i u g => ?_, S.dis, S.ref⟩, S.keep _ _ upd_same, hF, fun i o z => ?_⟩
  · rcases S.new b h with z | z
    · exact .inl z
    · exact .inr ⟨z.1, (pz z.2).2⟩
  · obtain ⟨v, e, r⟩ := S.slot i u g
    refine ⟨v, e, ?_⟩
    cases u with
    | v d => exact r
    | o xs => obtain ⟨b, us, rfl, k1, k2, k3, k4, k5⟩ := r; exact ⟨b, us, rfl, k1, k2, k3, k4, (pz k5).2⟩
    | r xs => obtain ⟨b, us, rfl, k1, k2, k3, k4, k5⟩ := r; exact ⟨b, us, rfl, k1, k2, k3, k4, (pz k5).2⟩
    | s ns =>
      obtain ⟨b, rfl, k1, k2, k3⟩ := r
      refine ⟨b, rfl, ?_, k2, k3⟩
      by_cases hb : b = a
      · subst hb; exact Same.seq (fun _ _ z => by cases z) (k3 hN)
      · have pn : (ZP Z a vs).P b = Z.P b := upd_ne hb
        rcases k1 with (h | ⟨o, h⟩) | h
        · exact .inl (.inl (by rw [pn] at h; exact h))
        · exact .inl (.inr ⟨o, by rw [pn] at h; exact h⟩)
        · exact .inr h
    | x c fs => exact r
  · obtain ⟨b, ws, xs, e1, _, _, _, e2, _⟩ := S.own o
    rw [z] at e1; cases e1
    exact (pz e2).1 rfl
/-- the forgotten slots are there again -/
theorem SR.back {F1 H1 : Hp} {env1 e : Env} {own : List Nat} (S : SR K Z F H (wipe σ own) e) (S1 : SR K Z F1 H1 σ env1) (s : Same F1 F) (p : plainAll env1 own) : SR K Z F H σ (puts env1 own e) := by
  have hl : σ.length = e.length := by rw [S.len, wipe_length]
  have plain : ∀ {i u}, i ∈ own → get env1 i = some u → ∃ d, u = .v d := fun {i u} hi g => plain_at p hi g
  have nown : ∀ {i}, Own (puts env1 own e) i → i ∉ own ∧ Own e i := fun {i} o => own_puts p o
  refine ⟨by rw [puts_length]; exact hl.symm, S.le, S.keep, S.base, S.new, S.dom, fun i u g => ?_, fun i j a ne oi oj e1 e2 => ?_, fun i a hi => ?_⟩
  · by_cases hi : i ∈ own
    · have hlt : i < e.length := by have := get_some_lt g; rwa [puts_length] at this
      rw [puts_in hi hlt] at g
      obtain ⟨d, rfl⟩ := plain hi g
      obtain ⟨v, e1, r⟩ := S1.slot i _ g
      exact ⟨v, e1, Rep.mono s r⟩
    · rw [puts_out hi] at g
      obtain ⟨v, e1, r⟩ := S.slot i u g
      rw [wipe_out hi] at e1
      exact ⟨v, e1, r⟩
  · obtain ⟨hi, oi⟩ := nown oi
    obtain ⟨hj, oj⟩ := nown oj
    exact S.dis i j a ne oi oj (by rw [wipe_out hi]; exact e1) (by rw [wipe_out hj]; exact e2)
  · obtain ⟨⟨xs, g⟩, e1⟩ := S.ref i a hi
    have ni : i ∉ own := fun m => by
      have z := S1.plain (plainAll_at p i m)
      rw [hi] at z; cases z
    rw [wipe_out ni] at e1
    exact ⟨⟨xs, by rw [puts_out ni]; exact g⟩, e1⟩
end
section
variable {Γ : Nat → Option FS} {CT : CTab} {X : Cx} {W : WX} {cc : CC} {Z : Zt} {n : Nat}
theorem ok_blk (ok : Ok Γ CT X W cc) (s : Shared) (H : Hp) (scope : Scope) (C : Addr) (cl : List (Str × Addr)) (fp : List Addr) : Ok Γ CT (X.blk s H scope (compEnvC scope cl C X.env) fp) (fun _ _ _ _ => False) (blkCC cc scope) where
  n := ok.n
  nd := ok.nd
  sc := by show relS scope X.env.scope = relS scope cc.sc; rw [ok.sc]
  st := fun x h => by
    have e : (X.blk s H scope (compEnvC scope cl C X.env) fp).env.scope = relS scope cc.sc := by show relS scope X.env.scope = relS scope cc.sc; rw [ok.sc]
    have h : (decide ((relS scope cc.sc).names.lookup x = some .local) || (decide ((relS scope cc.sc).names.lookup x = some .cell) && decide (scope.names.lookup x = some .cell))) = true := h
    rcases Bool.or_eq_true_iff.mp h with h | h
    · have h1 := of_decide_eq_true h
      exact ⟨.inl (by rw [e]; exact h1), .inr (by rw [e]; exact h1)⟩
    · obtain ⟨h1, h2⟩ := and_split h
      have h1 := of_decide_eq_true h1
      have h2 := of_decide_eq_true h2
      exact ⟨.inr (by rw [e]; exact h1), .inl (by show (scope.names.lookup x == some .cell) = true; rw [h2]; rfl)⟩
  calm := ok.calm
  tk := fun _ _ x => by
    obtain ⟨_, _, _, _, _, _, _, _, _, _, _, _, _, _, _, _, z⟩ := x
    exact z.elim
  po := PassesOwn.never
  un := ok.un
  blt := ok.blt
  gcd := ok.gcd
  lcm := ok.lcm
  cons := ok.cons
  fns := fun f S h => ⟨(ok.fns f S h).ex⟩
  full := ok.full
  frm := fun z => by cases z
  xc := ok.xc
  cat := ok.cat
  exs := ok.exs
theorem ownL_snd : ∀ (N : List Str) (own : List Nat), (ownL N own).map (·.2) = own
  | _, [] => rfl
  | N, i :: is => by show i :: (ownL N is).map (·.2) = _; rw [ownL_snd N is]
theorem PX.never {CT : CTab} {K : PySem.W.Frag} {Z : Zt} {σ : L2.St} {F : Hp} {W : WX} : ∀ x e, (fun (_ : EX) (_ : Env) => False) x e → PX CT K W Z σ F x e := fun _ _ h => h.elim
theorem snd_ifs (IHs : ∀ k, k ≤ n → SoundE Γ CT k) (ok : Ok Γ CT X W cc) {ms : List M} {es : List Expr} (h : chkF (chkT (chkE n cc) n) ms es = true) :
    PTs X es (fun σ H Q => ∃ Z F env, SR X.K Z F H σ env ∧ wpTs (wpT (wpE Γ n) n) ms env (PX CT X.K W Z σ F) (PB X.K Z σ F Q)) := by
  match ms, es, h with
  | [], [], _ => exact ⟨fun pins s σ H Q I ⟨Z, F, env, S, q⟩ => pts_nil.run pins s σ H Q I (q F H same_refl S)⟩
  | [c], [d], h => exact ⟨fun pins s σ H Q I ⟨Z, F, env, S, q⟩ => (pts_one (snd_T IHs ok Z (k := n) h)).run pins s σ H Q I ⟨F, env, S, q⟩⟩
  | [], _ :: _, h => cases h
  | [_], [], h => cases h
  | [_], _ :: _ :: _, h => cases h
  | _ :: _ :: _, _, h => cases h
theorem comp_parts (IHs : ∀ k, k ≤ n → SoundE Γ CT k) (ok : Ok Γ CT X W cc) (Z : Zt) {el : M} {t : T} {it : M} {ifs : List M} {own : List Nat} {elt : Expr} {gs : List Comprehension} {scope : Scope} {p : Pos} (h : chkE (n + 1) cc (.comp el t it ifs own) (.ListComp elt gs scope p) = true) :
    ∃ tg iter cifs, gs = [⟨tg, iter, cifs, 0⟩] ∧ ∃ (wi : TI) (g : TG) (tt : TT) (te : TE), PI X tg iter wi ∧ BlkOk X.N X.env.scope scope (ownL cc.N own) ∧
      (∀ (s : Shared) (H : Hp) (C : Addr) (cl : List (Str × Addr)) (fp : List Addr), PG (X.blk s H scope (compEnvC scope cl C X.env) fp) tg g) ∧ (∀ (s : Shared) (H : Hp) (C : Addr) (cl : List (Str × Addr)) (fp : List Addr), PTs (X.blk s H scope (compEnvC scope cl C X.env) fp) cifs tt) ∧
      (∀ (s : Shared) (H : Hp) (C : Addr) (cl : List (Str × Addr)) (fp : List Addr), PE (X.blk s H scope (compEnvC scope cl C X.env) fp) elt te) ∧ notSet iter = true ∧
      ∀ σ H Q, tE Γ CT X.K W Z (n + 1) (.comp el t it ifs own) σ H Q → tLc wi g tt te ((ownL cc.N own).map (·.2)) σ H Q := by
  have IH := IHs n (Nat.le_refl n)
  match gs, h with
  | [⟨tg, iter, cifs, ia⟩], h =>
    obtain ⟨h, h7⟩ := and_split (show (decide (ia = 0) && chkI cc (chkE n cc) tg it iter && blkC cc.N cc.sc scope (ownL cc.N own) && chkG (blkCC cc scope) n t tg && (slotsT n t).all (own.contains ·) && chkF (chkT (chkE n (blkCC cc scope)) n) ifs cifs && chkE n (blkCC cc scope) el elt) = true from h)
    obtain ⟨h, h6⟩ := and_split h
    obtain ⟨h, h5⟩ := and_split h
    obtain ⟨h, h4⟩ := and_split h
    obtain ⟨h, h3⟩ := and_split h
    obtain ⟨h1, h2⟩ := and_split h
    have e1 := of_decide_eq_true h1
    subst e1
    obtain ⟨pi, ns⟩ := snd_I (tg := tg) IH ok Z h2
    have bo : BlkOk X.N X.env.scope scope (ownL cc.N own) := by rw [ok.n, ok.sc]; exact blkOk_by h3
    have slots : ∀ i ∈ slotsT n t, i ∈ own := fun i hi => by
      have := List.all_eq_true.mp h5 i hi
      simpa using this
    refine ⟨tg, iter, cifs, rfl, iG Γ CT X.K W Z n it, fun v σ H Q => ∃ Z, gG X.K Z n t v σ H Q, fun σ H Q => ∃ Z F env, SR X.K Z F H σ env ∧ wpTs (wpT (wpE Γ n) n) ifs env (PX CT X.K (fun _ _ _ _ => False) Z σ F) (PB X.K Z σ F Q),
      fun σ H Q => ∃ Z, tE Γ CT X.K (fun _ _ _ _ => False) Z n el σ H Q, pi, bo, fun s H C cl fp => ?_, fun s H C cl fp => ?_, fun s H C cl fp => ?_, ns, fun σ H Q ⟨F0, env0, S0, q0⟩ => ?_⟩
    · exact ⟨fun pins s' σ H' v u Q I r ⟨Z, q⟩ => (snd_G (ok_blk ok s H scope C cl fp) Z h4).run pins s' σ H' v u Q I r q⟩
    · exact snd_ifs IHs (ok_blk ok s H scope C cl fp) h6
    · exact ⟨fun pins s' σ H' Q I ⟨Z, q⟩ => (IH _ _ _ (ok_blk ok s H scope C cl fp) Z el elt h7).run pins s' σ H' Q I q⟩
    · have M := wpE_mono Γ n
      rw [wpE_succ] at q0
      unfold wpE1 at q0
      dsimp only at q0
      refine ⟨F0, env0, S0, wpI_mono M q0 (fun _ _ z => z) fun ds env1 q1 J F1 H1 s1 S1 wk => fun A hA => ?_⟩
      obtain ⟨⟨pl, dl⟩, q2⟩ := ckP_get q1
      unfold compP at q2
      rw [ownL_snd]
      have fD := S1.noneF hA
      have zF : Z.F A = none := GM.noneF S1.base fD
      have zP : Z.P A = none := S1.noneP hA
      have zN : Z.N A := S1.dom A hA
      have xo : ∀ i ∈ own, Z.X i = none := fun i hi => S1.plain (plainAll_at pl i hi)
      let step : D → Env → (List D → Env → Prop) → Prop := fun x e nx => bindT n t x e fun e1 => wpTs (wpT (wpE Γ n) n) ifs e1 (fun _ _ => False) fun b e2 => brP b (wpE Γ n el e2 (fun _ _ => False) fun u e3 => optP u.fz fun d => nx [d] (wipes own e3)) (nx [] (wipes own e2))
      let Inv' : Nat → Nat → Hp → Prop := fun i m H => m = ds.length - i ∧ i ≤ ds.length ∧ ∃ F e acc accV, SR X.K (ZP Z A accV) F H (wipe σ own) e ∧ Same F1 F ∧ Reps F accV acc ∧ acc.length ≤ i ∧ compL step (ds.drop i) e acc fun acc e => PV X.K Z σ F0 Q (.o acc) (puts env1 own e)
      refine ⟨Inv', ⟨_, rfl, Nat.zero_le _, F1, wipes own env1, [], [], ?_, same_refl, .nil, Nat.le_refl _, q2⟩, ?_⟩
      · exact SR.wipes (Z := ZP Z A []) (S1.lay hA []) xo
      · rintro i m H2 ⟨rfl, hi, F2, e2, acc, accV, S2, s2, ra, al, q3⟩
        by_cases hlt : i < ds.length
        · refine .inr ⟨((wk F2 H2 s2 S2.le).1 i hlt).1, Inv' (i + 1) (ds.length - (i + 1)), fun H' z => ⟨_, by omega, z⟩, fun x H3 y => ?_⟩
          obtain ⟨F3, d, g3, hd, rd⟩ := ((wk F2 H2 s2 S2.le).1 i hlt).2 x H3 y
          have hd' : ds.drop i = d :: ds.drop (i + 1) := by
            have e := List.getElem?_eq_some_iff.mp hd
            obtain ⟨h1, h2⟩ := e
            rw [List.drop_eq_getElem_cons h1, h2]
          rw [hd'] at q3
          have q4 : step d e2 fun ds' e' => compL step (ds.drop (i + 1)) e' (acc ++ ds') fun acc e => PV X.K Z σ F0 Q (.o acc) (puts env1 own e) := q3
          have S3 := S2.grow g3
          refine ⟨ZP Z A accV, F3, e2, d, S3, rd, bindT_mono q4 fun e4 q5 σ4 S4 a4 => ⟨wipe_agree a4 slots, ZP Z A accV, F3, e4, S4, ?_⟩⟩
          have wa : wipe σ4 own = wipe σ own := wipe_agree a4 slots
          refine wpTs_mono (tst := wpT (wpE Γ n) n) (fun m env Qx Qx' Q Q' h fx f => wpT_mono M h fx f) q5 PX.never ?_
          intro b e5 q6 F5 H5 s5 S5
          obtain ⟨qt, qf⟩ := brP_get q6
          cases b with
          | false =>
            rw [if_neg Bool.false_ne_true]
            have S6 := S5.wipes (is := own) xo
            rw [wa] at S6
            refine ⟨rfl, hlt, F5, wipes own e5, acc, accV, S6, s2.trans (g3.f.trans s5), ra.mono (g3.f.trans s5), Nat.le_succ_of_le al, ?_⟩
            have q9 := qf rfl
            dsimp only at q9
            rw [List.append_nil] at q9
            exact q9
          | true =>
            rw [if_pos rfl]
            refine ⟨ZP Z A accV, F5, e5, S5, M _ _ _ _ _ _ (qt rfl) PX.never fun u e6 q7 v F6 H6 s6 S6 r6 => ?_⟩
            obtain ⟨dv, ev, q8⟩ := optP_get q7
            obtain ⟨F7, s7, S7, r7⟩ := RU.fz S6 r6 ev
            have sall := g3.f.trans (s5.trans (s6.trans s7))
            have rl := ra.length
            have al2 : acc.length < LIM := by omega
            refine ⟨accV, S7.keep _ _ upd_same, by rw [rl, ← limLine]; exact al2, rfl, hlt, F7, wipes own e6, acc ++ [dv], accV ++ [v], ?_, s2.trans sall, (ra.mono sall).append (.one r7), by simp; omega, q8⟩
            have S8 := (S7.turn zF zN (accV ++ [v])).wipes (is := own) xo
            rw [wa] at S8
            exact S8
        · refine .inl ⟨(wk F2 H2 s2 S2.le).2 i (by omega), ?_⟩
          rw [List.drop_eq_nil_of_le (by omega)] at q3
          have q4 : PV X.K Z σ F0 Q (.o acc) (puts env1 own e2) := q3
          obtain ⟨S3, hD2, fD2, nD⟩ := S2.out zF zP zN
          have S4 := S3.back S1 s2 pl
          refine q4 (.ref A) F2 H2 (s1.trans s2) S4 ⟨A, accV, rfl, hD2, fD2, ra, zN, zP, fun j oj z => ?_⟩
          obtain ⟨nj, oj⟩ := own_puts pl oj
          exact nD j oj (by rw [wipe_out nj]; exact z)
  | [], h => cases h
  | ⟨_, _, _, _⟩ :: _ :: _, h => cases h
theorem snd_comp (IHs : ∀ k, k ≤ n → SoundE Γ CT k) (ok : Ok Γ CT X W cc) (Z : Zt) {el : M} {t : T} {it : M} {ifs : List M} {own : List Nat} {e : Expr} (h : chkE (n + 1) cc (.comp el t it ifs own) e = true) : PE X e (tE Γ CT X.K W Z (n + 1) (.comp el t it ifs own)) := by
  cases e with
  | ListComp elt gs scope p =>
    obtain ⟨tg, iter, cifs, rfl, wi, g, tt, te, h1, h2, h3, h4, h5, h6, h7⟩ := comp_parts IHs ok Z h
    exact PE.imp (pe_lc ok.calm ok.nd h1 h2 h3 h4 h5 (fold_ok h6)) h7
  | _ => cases h
theorem chkI_ns {cc : CC} {rec : M → Expr → Bool} {tg : Expr} {m : M} {e : Expr} (h : chkI cc rec tg m e = true) : notSet e = true := by
  cases e with
  | Set _ _ => cases m <;> first | cases h | exact (and_split h).2
  | _ => rfl
theorem wipe_wipe {σ : L2.St} {is own : List Nat} (h : ∀ i ∈ is, i ∈ own) : wipe (wipe σ is) own = wipe σ own := by
  apply List.ext_getElem?
  intro i
  by_cases hv : i ∈ own
  · by_cases hi : i < σ.length
    · rw [wipe_in (by rw [wipe_length]; exact hi) hv, wipe_in hi hv]
    · rw [List.getElem?_eq_none (by rw [wipe_length, wipe_length]; omega), List.getElem?_eq_none (by rw [wipe_length]; omega)]
  · rw [wipe_out hv, wipe_out hv, wipe_out fun z => hv (h i z)]
theorem comp2_parts (IHs : ∀ k, k ≤ n → SoundE Γ CT k) (ok : Ok Γ CT X W cc) (Z : Zt) {el : M} {t t2 : T} {it it2 : M} {ifs ifs2 : List M} {own : List Nat} {elt : Expr} {gs : List Comprehension} {scope : Scope} {p : Pos} (h : chkE (n + 1) cc (.comp2 el t it ifs t2 it2 ifs2 own) (.ListComp elt gs scope p) = true) :
    ∃ tg iter cifs tg1 iter1 cifs1, gs = [⟨tg, iter, cifs, 0⟩, ⟨tg1, iter1, cifs1, 0⟩] ∧ ∃ (wi : TI) (g : TG) (tt : TT) (wi1 : TI) (g1 : TG) (tt1 : TT) (te : TE), PI X tg iter wi ∧ BlkOk X.N X.env.scope scope (ownL cc.N own) ∧ (∀ i ∈ slotsT n t2, i ∈ (ownL cc.N own).map (·.2)) ∧
      (∀ (s : Shared) (H : Hp) (C : Addr) (cl : List (Str × Addr)) (fp : List Addr), PG (X.blk s H scope (compEnvC scope cl C X.env) fp) tg g) ∧ (∀ (s : Shared) (H : Hp) (C : Addr) (cl : List (Str × Addr)) (fp : List Addr), PTs (X.blk s H scope (compEnvC scope cl C X.env) fp) cifs tt) ∧
      (∀ (s : Shared) (H : Hp) (C : Addr) (cl : List (Str × Addr)) (fp : List Addr), PI (X.blk s H scope (compEnvC scope cl C X.env) fp) tg1 iter1 wi1) ∧
      (∀ (s : Shared) (H : Hp) (C : Addr) (cl : List (Str × Addr)) (fp : List Addr), PG (X.blk s H scope (compEnvC scope cl C X.env) fp) tg1 g1) ∧ (∀ (s : Shared) (H : Hp) (C : Addr) (cl : List (Str × Addr)) (fp : List Addr), PTs (X.blk s H scope (compEnvC scope cl C X.env) fp) cifs1 tt1) ∧
      (∀ (s : Shared) (H : Hp) (C : Addr) (cl : List (Str × Addr)) (fp : List Addr), PE (X.blk s H scope (compEnvC scope cl C X.env) fp) elt te) ∧ notSet iter = true ∧ notSet iter1 = true ∧
      ∀ σ H Q, tE Γ CT X.K W Z (n + 1) (.comp2 el t it ifs t2 it2 ifs2 own) σ H Q → tLc2 wi g tt wi1 g1 tt1 te ((ownL cc.N own).map (·.2)) (slotsT n t2) σ H Q := by
  have IH := IHs n (Nat.le_refl n)
  match gs, h with
  | [⟨tg, iter, cifs, ia⟩, ⟨tg1, iter1, cifs1, ia1⟩], h =>
    obtain ⟨h, h12⟩ := and_split (show (decide (ia = 0) && decide (ia1 = 0) && chkI cc (chkE n cc) tg it iter && blkC cc.N cc.sc scope (ownL cc.N own) && chkG (blkCC cc scope) n t tg && (slotsT n t).all (own.contains ·) &&
          chkF (chkT (chkE n (blkCC cc scope)) n) ifs cifs && chkI (blkCC cc scope) (chkE n (blkCC cc scope)) tg1 it2 iter1 && chkG (blkCC cc scope) n t2 tg1 && (slotsT n t2).all (own.contains ·) &&
          chkF (chkT (chkE n (blkCC cc scope)) n) ifs2 cifs1 && chkE n (blkCC cc scope) el elt) = true from h)
    obtain ⟨h, h11⟩ := and_split h
    obtain ⟨h, h10⟩ := and_split h
    obtain ⟨h, h9⟩ := and_split h
    obtain ⟨h, h8⟩ := and_split h
    obtain ⟨h, h7⟩ := and_split h
    obtain ⟨h, h6⟩ := and_split h
    obtain ⟨h, h5⟩ := and_split h
    obtain ⟨h, h4⟩ := and_split h
    obtain ⟨h, h3⟩ := and_split h
    obtain ⟨h1, h2⟩ := and_split h
    have e1 := of_decide_eq_true h1
    have e2 := of_decide_eq_true h2
    subst e1
    subst e2
    obtain ⟨pi, ns⟩ := snd_I (tg := tg) IH ok Z h3
    have bo : BlkOk X.N X.env.scope scope (ownL cc.N own) := by rw [ok.n, ok.sc]; exact blkOk_by h4
    have slots : ∀ i ∈ slotsT n t, i ∈ own := fun i hi => by
      have := List.all_eq_true.mp h6 i hi
      simpa using this
    have slots2 : ∀ i ∈ slotsT n t2, i ∈ own := fun i hi => by
      have := List.all_eq_true.mp h10 i hi
      simpa using this
    have ns2 : notSet iter1 = true := chkI_ns h8
    refine ⟨tg, iter, cifs, tg1, iter1, cifs1, rfl, iG Γ CT X.K W Z n it, fun v σ H Q => ∃ Z, gG X.K Z n t v σ H Q,
      fun σ H Q => ∃ Z F env, SR X.K Z F H σ env ∧ wpTs (wpT (wpE Γ n) n) ifs env (PX CT X.K (fun _ _ _ _ => False) Z σ F) (PB X.K Z σ F Q),
      fun σ H R => ∃ Z, iG Γ CT X.K (fun _ _ _ _ => False) Z n it2 σ H R, fun v σ H Q => ∃ Z, gG X.K Z n t2 v σ H Q,
      fun σ H Q => ∃ Z F env, SR X.K Z F H σ env ∧ wpTs (wpT (wpE Γ n) n) ifs2 env (PX CT X.K (fun _ _ _ _ => False) Z σ F) (PB X.K Z σ F Q),
      fun σ H Q => ∃ Z, tE Γ CT X.K (fun _ _ _ _ => False) Z n el σ H Q, pi, bo, fun i hi => by rw [ownL_snd]; exact slots2 i hi,
      fun s H C cl fp => ⟨fun pins s' σ H' v u Q I r ⟨Z, q⟩ => (snd_G (ok_blk ok s H scope C cl fp) Z h5).run pins s' σ H' v u Q I r q⟩,
      fun s H C cl fp => snd_ifs IHs (ok_blk ok s H scope C cl fp) h7,
      fun s H C cl fp => ⟨fun pins s' σ H' R I ⟨Z, q⟩ => (snd_I (tg := tg1) IH (ok_blk ok s H scope C cl fp) Z h8).1.run pins s' σ H' R I q⟩,
      fun s H C cl fp => ⟨fun pins s' σ H' v u Q I r ⟨Z, q⟩ => (snd_G (ok_blk ok s H scope C cl fp) Z h9).run pins s' σ H' v u Q I r q⟩,
      fun s H C cl fp => snd_ifs IHs (ok_blk ok s H scope C cl fp) h11,
      fun s H C cl fp => ⟨fun pins s' σ H' Q I ⟨Z, q⟩ => (IH _ _ _ (ok_blk ok s H scope C cl fp) Z el elt h12).run pins s' σ H' Q I q⟩,
      ns, ns2, fun σ H Q ⟨F0, env0, S0, q0⟩ => ?_⟩
    have M := wpE_mono Γ n
    rw [wpE_succ] at q0
    unfold wpE1 at q0
    dsimp only at q0
    refine ⟨F0, env0, S0, wpI_mono M q0 (fun _ _ z => z) fun ds env1 q1 J F1 H1 s1 S1 wk => fun A hA => ?_⟩
    obtain ⟨⟨pl, dl⟩, q2⟩ := ckP_get q1
    unfold compP at q2
    rw [ownL_snd]
    have fD := S1.noneF hA
    have zF : Z.F A = none := GM.noneF S1.base fD
    have zP : Z.P A = none := S1.noneP hA
    have zN : Z.N A := S1.dom A hA
    have xo : ∀ i ∈ own, Z.X i = none := fun i hi => S1.plain (plainAll_at pl i hi)
    let own2 := slotsT n t2
    have xo2 : ∀ i ∈ own2, Z.X i = none := fun i hi => xo i (slots2 i hi)
    let istep : D → Env → (List D → Env → Prop) → Prop := fun y e' nx' => bindT n t2 y e' fun e4 => wpTs (wpT (wpE Γ n) n) ifs2 e4 (fun _ _ => False) fun b2 e5 => brP b2 (wpE Γ n el e5 (fun _ _ => False) fun u e6 => optP u.fz fun d => nx' [d] (wipes own2 e6)) (nx' [] (wipes own2 e5))
    let step : D → Env → (List D → Env → Prop) → Prop := fun x e nx => bindT n t x e fun e1 => wpTs (wpT (wpE Γ n) n) ifs e1 (fun _ _ => False) fun b e2 => brP b (wpI (wpE Γ n) it2 e2 (fun _ _ => False) fun ds2 e3 => ckP (ds2.length ≤ 4096) (compL istep ds2 (wipes own2 e3) [] fun acc2 e7 => nx acc2 (wipes own e7))) (nx [] (wipes own e2))
    let Inv' : Nat → Nat → Hp → Prop := fun i m H => m = ds.length - i ∧ i ≤ ds.length ∧ ∃ F e acc accV, SR X.K (ZP Z A accV) F H (wipe σ own) e ∧ Same F1 F ∧ Reps F accV acc ∧ acc.length ≤ i * 4096 ∧ compL step (ds.drop i) e acc fun acc e => PV X.K Z σ F0 Q (.o acc) (puts env1 own e)
    refine ⟨Inv', ⟨_, rfl, Nat.zero_le _, F1, wipes own env1, [], [], ?_, same_refl, .nil, Nat.zero_le _, q2⟩, ?_⟩
    · exact SR.wipes (Z := ZP Z A []) (S1.lay hA []) xo
    · rintro i m H2 ⟨rfl, hi, F2, e2, acc, accV, S2, s2, ra, al, q3⟩
      by_cases hlt : i < ds.length
      · refine .inr ⟨((wk F2 H2 s2 S2.le).1 i hlt).1, Inv' (i + 1) (ds.length - (i + 1)), fun H' z => ⟨_, by omega, z⟩, fun x H3 y => ?_⟩
        obtain ⟨F3, d, g3, hd, rd⟩ := ((wk F2 H2 s2 S2.le).1 i hlt).2 x H3 y
        have hd' : ds.drop i = d :: ds.drop (i + 1) := by
          have e := List.getElem?_eq_some_iff.mp hd
          obtain ⟨h1, h2⟩ := e
          rw [List.drop_eq_getElem_cons h1, h2]
        rw [hd'] at q3
        have q4 : step d e2 fun ds' e' => compL step (ds.drop (i + 1)) e' (acc ++ ds') fun acc e => PV X.K Z σ F0 Q (.o acc) (puts env1 own e) := q3
        have S3 := S2.grow g3
        refine ⟨ZP Z A accV, F3, e2, d, S3, rd, bindT_mono q4 fun e4 q5 σ4 S4 a4 => ⟨wipe_agree a4 slots, ZP Z A accV, F3, e4, S4, ?_⟩⟩
        have wa : wipe σ4 own = wipe σ own := wipe_agree a4 slots
        refine wpTs_mono (tst := wpT (wpE Γ n) n) (fun m env Qx Qx' Q Q' h fx f => wpT_mono M h fx f) q5 PX.never ?_
        intro b e5 q6 F5 H5 s5 S5
        obtain ⟨qt, qf⟩ := brP_get q6
        cases b with
        | false =>
          rw [if_neg Bool.false_ne_true]
          have S6 := S5.wipes (is := own) xo
          rw [wa] at S6
          refine ⟨rfl, hlt, F5, wipes own e5, acc, accV, S6, s2.trans (g3.f.trans s5), ra.mono (g3.f.trans s5), Nat.le_trans al (Nat.mul_le_mul_right _ (Nat.le_succ i)), ?_⟩
          have q9 := qf rfl
          dsimp only at q9
          rw [List.append_nil] at q9
          exact q9
        | true =>
          rw [if_pos rfl]
          refine ⟨ZP Z A accV, F5, e5, S5, wpI_mono M (qt rfl) PX.never fun ds2 e6 q7 J1 F6 H6 s6 S6 wk1 => ?_⟩
          obtain ⟨dl2, q8⟩ := ckP_get q7
          have s26 : Same F2 F6 := g3.f.trans (s5.trans s6)
          have ra6 : Reps F6 accV acc := ra.mono s26
          let Inv2 : Nat → Nat → Hp → Prop := fun j k H => k = ds2.length - j ∧ j ≤ ds2.length ∧ ∃ F e acc2 accV2, SR X.K (ZP Z A (accV ++ accV2)) F H (wipe σ4 own2) e ∧ Same F6 F ∧ Reps F accV2 acc2 ∧ acc2.length ≤ j ∧
            compL istep (ds2.drop j) e acc2 fun acc2 e7 => compL step (ds.drop (i + 1)) (wipes own e7) (acc ++ acc2) fun acc e => PV X.K Z σ F0 Q (.o acc) (puts env1 own e)
          refine ⟨Inv2, ⟨_, rfl, Nat.zero_le _, F6, wipes own2 e6, [], [], ?_, same_refl, .nil, Nat.le_refl _, q8⟩, ?_⟩
          · rw [List.append_nil]
            exact S6.wipes xo2
          · rintro j k H7 ⟨rfl, hj, F7, e7, acc2, accV2, S7, s7, ra2, al2, q9⟩
            by_cases hlt2 : j < ds2.length
            · refine .inr ⟨((wk1 F7 H7 s7 S7.le).1 j hlt2).1, Inv2 (j + 1) (ds2.length - (j + 1)), fun H' z => ⟨_, by omega, z⟩, fun x H8 y => ?_⟩
              obtain ⟨F8, d2, g8, hd2, rd2⟩ := ((wk1 F7 H7 s7 S7.le).1 j hlt2).2 x H8 y
              have hd2' : ds2.drop j = d2 :: ds2.drop (j + 1) := by
                have e := List.getElem?_eq_some_iff.mp hd2
                obtain ⟨h1, h2⟩ := e
                rw [List.drop_eq_getElem_cons h1, h2]
              rw [hd2'] at q9
              have q10 : istep d2 e7 fun ds' e' => compL istep (ds2.drop (j + 1)) e' (acc2 ++ ds') fun acc2 e7 => compL step (ds.drop (i + 1)) (wipes own e7) (acc ++ acc2) fun acc e => PV X.K Z σ F0 Q (.o acc) (puts env1 own e) := q9
              have S8 := S7.grow g8
              refine ⟨ZP Z A (accV ++ accV2), F8, e7, d2, S8, rd2, bindT_mono q10 fun e9 q11 σ9 S9 a9 => ⟨wipe_agree a9 fun _ z => z, ZP Z A (accV ++ accV2), F8, e9, S9, ?_⟩⟩
              have wb : wipe σ9 own2 = wipe σ4 own2 := wipe_agree a9 fun _ z => z
              refine wpTs_mono (tst := wpT (wpE Γ n) n) (fun m env Qx Qx' Q Q' h fx f => wpT_mono M h fx f) q11 PX.never ?_
              intro b2 e10 q12 F10 H10 s10 S10
              obtain ⟨rt, rf⟩ := brP_get q12
              cases b2 with
              | false =>
                rw [if_neg Bool.false_ne_true]
                have S11 := S10.wipes (is := own2) xo2
                rw [wb] at S11
                refine ⟨rfl, hlt2, F10, wipes own2 e10, acc2, accV2, S11, s7.trans (g8.f.trans s10), ra2.mono (g8.f.trans s10), Nat.le_succ_of_le al2, ?_⟩
                have q13 := rf rfl
                dsimp only at q13
                rw [List.append_nil] at q13
                exact q13
              | true =>
                rw [if_pos rfl]
                refine ⟨ZP Z A (accV ++ accV2), F10, e10, S10, M _ _ _ _ _ _ (rt rfl) PX.never fun u e11 q13 v F11 H11 s11 S11 r11 => ?_⟩
                obtain ⟨dv, ev, q14⟩ := optP_get q13
                obtain ⟨F12, s12, S12, r12⟩ := RU.fz S11 r11 ev
                have sall := g8.f.trans (s10.trans (s11.trans s12))
                have rl := ra6.length
                have rl2 := ra2.length
                have alim : accV.length + accV2.length < LIM := by
                  rw [rl, rl2]
                  show _ < 16777216
                  have : i * 4096 ≤ 4095 * 4096 := Nat.mul_le_mul_right _ (by omega)
                  omega
                refine ⟨accV ++ accV2, S12.keep _ _ upd_same, by rw [List.length_append, ← limLine]; exact alim, rfl, hlt2, F12, wipes own2 e11, acc2 ++ [dv], accV2 ++ [v], ?_, s7.trans sall, (ra2.mono sall).append (.one r12), by simp; omega, q14⟩
                have S13 := (S12.turn zF zN ((accV ++ accV2) ++ [v])).wipes (is := own2) xo2
                rw [wb, List.append_assoc] at S13
                rw [← List.append_assoc] at S13 ⊢
                exact S13
            · refine .inl ⟨(wk1 F7 H7 s7 S7.le).2 j (by omega), ?_⟩
              rw [List.drop_eq_nil_of_le (by omega)] at q9
              have q10 : compL step (ds.drop (i + 1)) (wipes own e7) (acc ++ acc2) fun acc e => PV X.K Z σ F0 Q (.o acc) (puts env1 own e) := q9
              have S8 := S7.wipes (is := own) xo
              rw [wipe_wipe slots2, wa] at S8
              refine ⟨rfl, hlt, F7, wipes own e7, acc ++ acc2, accV ++ accV2, S8, s2.trans (s26.trans s7), (ra6.mono s7).append ra2, ?_, q10⟩
              rw [List.length_append, Nat.succ_mul]
              omega
      · refine .inl ⟨(wk F2 H2 s2 S2.le).2 i (by omega), ?_⟩
        rw [List.drop_eq_nil_of_le (by omega)] at q3
        have q4 : PV X.K Z σ F0 Q (.o acc) (puts env1 own e2) := q3
        obtain ⟨S3, hD2, fD2, nD⟩ := S2.out zF zP zN
        have S4 := S3.back S1 s2 pl
        refine q4 (.ref A) F2 H2 (s1.trans s2) S4 ⟨A, accV, rfl, hD2, fD2, ra, zN, zP, fun j oj z => ?_⟩
        obtain ⟨nj, oj⟩ := own_puts pl oj
        exact nD j oj (by rw [wipe_out nj]; exact z)
  | [], h => cases h
  | [⟨_, _, _, _⟩], h => cases h
  | ⟨_, _, _, _⟩ :: ⟨_, _, _, _⟩ :: _ :: _, h => cases h
theorem snd_comp2 (IHs : ∀ k, k ≤ n → SoundE Γ CT k) (ok : Ok Γ CT X W cc) (Z : Zt) {el : M} {t t2 : T} {it it2 : M} {ifs ifs2 : List M} {own : List Nat} {e : Expr} (h : chkE (n + 1) cc (.comp2 el t it ifs t2 it2 ifs2 own) e = true) :
    PE X e (tE Γ CT X.K W Z (n + 1) (.comp2 el t it ifs t2 it2 ifs2 own)) := by
  cases e with
  | ListComp elt gs scope p =>
    obtain ⟨tg, iter, cifs, tg1, iter1, cifs1, rfl, wi, g, tt, wi1, g1, tt1, te, h1, h2, hv, h3, h4, k1, k2, k3, h5, h6, h6', h7⟩ := comp2_parts IHs ok Z h
    exact PE.imp (pe_lc2 ok.calm ok.nd h1 h2 hv h3 h4 k1 k2 k3 h5 (fold_ok h6) (fun env x => fold_ok h6' x)) h7
  | _ => cases h
/-! a list that begins with a list of which no more is told -/
theorem SR.opq {K : PySem.W.Frag} {F H : Hp} {σ : L2.St} {env : Env} {a : Addr} {vs : List V} {o : HO} (S : SR K Z F H σ env) (hH : H a = some (.lst vs)) (hF : F a = none) (no : ∀ i, Own env i → σ[i]? ≠ some (some (.ref a))) (zF : Z.F a = none) (zP : Z.P a = none) (zN : Z.N a) :
    SR K Z (upd F a o) (upd H a o) σ env := by
  have up : Same F (upd F a o) := same_upd hF
  refine ⟨S.len, fun b x e => ?_, fun b x e => ?_, fun b x e => ?_, fun b h => ?_, fun b h => ?_, fun i u g => ?_, S.dis, S.ref⟩
  · by_cases hb : b = a
    · subst hb; rw [upd_same] at e ⊢; exact e
    · rw [upd_ne hb] at e ⊢; exact S.le _ _ e
  · have hb : b ≠ a := fun z => by rw [z, zP] at e; cases e
    rw [upd_ne hb]; exact S.keep _ _ e
  · exact up _ _ (S.base _ _ e)
  · by_cases hb : b = a
    · subst hb; exact .inr ⟨zN, zP⟩
    · rw [upd_ne hb] at h; exact S.new b h
  · by_cases hb : b = a
    · subst hb; rw [upd_same] at h; cases h
    · rw [upd_ne hb] at h; exact S.dom b h
  · obtain ⟨v, e, r⟩ := S.slot i u g
    refine ⟨v, e, ?_⟩
    cases u with
    | v d => exact Rep.mono up r
    | o xs =>
      obtain ⟨b, ws, rfl, k1, k2, k3, k4, k5⟩ := r
      have hb : b ≠ a := fun z => no i (.inl ⟨xs, g⟩) (by rw [e, z])
      exact ⟨b, ws, rfl, by rw [upd_ne hb]; exact k1, by rw [upd_ne hb]; exact k2, k3.mono up, k4, k5⟩
    | r xs =>
      obtain ⟨b, ws, rfl, k1, k2, k3, k4, k5⟩ := r
      have hb : b ≠ a := fun z => no i (.inr ⟨xs, g⟩) (by rw [e, z])
      exact ⟨b, ws, rfl, by rw [upd_ne hb]; exact k1, by rw [upd_ne hb]; exact k2, k3.mono up, k4, k5⟩
    | s ns => exact r
    | x c fs => exact r
theorem pe_hide {e : Expr} {t : TE} (h : PE X e t) : PE X e (fun σ H Q => t σ H fun x H1 => ∃ (b : Addr) (ns : List Int), H1 b = some (.lst (ns.map V.int)) ∧ Q x (upd H1 b (JL b))) :=
  ⟨fun pins s σ H Q I q => wpAny_mono (h.run pins s σ H _ I q) (fun v s1 ⟨x, H1, I1, r1, b, ns, hb, q1⟩ => ⟨x, _, hide I1 hb, r1, q1⟩) fun _ _ z => z⟩
theorem snd_jar (IH : SoundE Γ CT n) (ok : Ok Γ CT X W cc) (Z : Zt) {i : Nat} {a : M} {e : Expr} (h : chkE (n + 1) cc (.jar i a) e = true) : PE X e (tE Γ CT X.K W Z (n + 1) (.jar i a)) := by
  match e, h with
  | .List [.Subscript (.Name x xp) (.Slice none none (some (.UnaryOp .USub (.Constant (.int 1) k1 p1) p2)) p3) p4, y] p, h =>
    obtain ⟨h1, h2⟩ := and_split (show (nameB cc i x && chkE n cc a y) = true from h)
    have pe2 : PE X y (fun σ H Q => ∃ Z', tE Γ CT X.K W Z' n a σ H Q) := ⟨fun pins s σ H Q I ⟨Z', q⟩ => (IH _ _ _ ok Z' a y h2).run pins s σ H Q I q⟩
    have pl := pe_hide (pe_lst (pos := p) (pa_cons (pe_revL (k := k1) (p1 := p1) (p2 := p2) (p3 := p3) (pos := p4) (pe_name (pos := xp) ok h1)) (pa_cons pe2 pa_nil (chk_star h2 [] [] _))))
    refine PE.imp pl fun σ H Q ⟨F, env, S, q⟩ => ?_
    rw [wpE_succ] at q
    unfold wpE1 at q
    dsimp only at q
    obtain ⟨xs, e0, q⟩ := optP_get q
    obtain ⟨ns, e1, q⟩ := optP_get q
    obtain ⟨b, ws, hb, hv, rw0, fb⟩ := S.cell e0
    have hw := rw0.ints e1
    subst hw
    refine ⟨.ref b, hb, b, ns.map V.int, rfl, SqL.of hv, fun a1 ha1 => ?_⟩
    have fD := S.noneF ha1
    have zF : Z.F a1 = none := GM.noneF S.base fD
    have zP : Z.P a1 = none := S.noneP ha1
    have zN : Z.N a1 := S.dom a1 ha1
    refine ⟨ZP Z a1 (ns.map V.int).reverse, F, env, S.lay ha1 _, wpE_mono Γ n _ _ _ _ _ _ q (fun _ _ z => z.elim) fun u env1 q2 v F1 H1 s1 S1 r1 => ?_⟩
    obtain ⟨d, e2, q3⟩ := optP_get q2
    obtain ⟨m, e3, q4⟩ := optP_get q3
    have ed : d = .int m := by cases d <;> first | (cases e3; rfl) | cases e3
    obtain ⟨F2, s2, S2, r2⟩ := RU.fz S1 r1 e2
    rw [ed] at r2
    have hv2 : v = .int m := by cases r2; rfl
    obtain ⟨S3, hH, hF, no⟩ := S2.out zF zP zN
    refine ⟨by show 2 ≤ sizeLine; rw [sizeLine_eq]; decide, fun p hp => ?_⟩
    have hpa : p ≠ a1 := ne_of_none hH hp |>.symm
    have S4 := S3.grow (Grow.own (o := .lst [.ref a1, v]) S3.le hp)
    have fp := S3.noneF hp
    refine ⟨a1, ns.reverse, by rw [upd_ne hpa.symm, hH, List.map_reverse], ?_⟩
    have S5 := S4.opq (o := JL a1) (by rw [upd_ne hpa.symm]; exact hH) hF no zF zP zN
    refine q4 (.ref p) _ _ ((s1.trans s2).trans (same_upd hF)) S5 ⟨p, [.ref a1, v], rfl, by rw [upd_ne hpa, upd_same], by rw [upd_ne hpa]; exact fp, ?_, S3.dom p hp, S3.noneP hp, fun j oj z => ?_⟩
    · rw [hv2]
      exact .cons (.opq upd_same) (.cons (.int m) .nil)
    · obtain ⟨a', vs', xs', g1, g2, _⟩ := S3.own oj
      rw [z] at g1
      cases g1
      rw [hp] at g2; cases g2
/-- all expressions -/
theorem soundE (Γ : Nat → Option FS) (CT : CTab) : ∀ n, SoundE Γ CT n := fun n => by
  induction n using Nat.strongRecOn with
  | _ n ih =>
    cases n with
    | zero => intro cc X W ok Z m e h; cases h
    | succ n =>
      have IHs : ∀ k, k ≤ n → SoundE Γ CT k := fun k hk => ih k (by omega)
      have IH := IHs n (Nat.le_refl n)
      intro cc X W ok Z m e h
      cases m with
      | var i => exact snd_var IH ok Z h
      | con d => exact snd_con IH ok Z h
      | bin op a b => exact snd_bin IH ok Z h
      | neg a => exact snd_neg IH ok Z h
      | cmp op a b => exact (snd_cmp IH ok Z h).1
      | chain o1 o2 a b c => exact (snd_chain IH ok Z h).1
      | and_ a b => exact snd_and IH ok Z h
      | or_ a b => exact snd_or IH ok Z h
      | notv a => exact snd_not IH ok Z h
      | ife c a b => exact snd_ife IHs ok Z h
      | tup es => exact snd_tup IH ok Z h
      | lst es => exact snd_lst IH ok Z h
      | idx a i => exact snd_idx IH ok Z h
      | slc a lo hi => exact snd_slc IH ok Z h
      | call f as => exact snd_call IH ok Z h
      | callk f as ks perm => exact snd_callk IH ok Z h
      | bi b as =>
        by_cases hb : ∃ ts, b = .isi ts
        · obtain ⟨ts, rfl⟩ := hb; exact snd_isi IH ok Z h
        · by_cases h1 : b = .sset
          · subst h1; exact snd_sset IH ok Z h
          · by_cases h2 : b = .rngT
            · subst h2; exact snd_rngT IH ok Z h
            · by_cases h3 : b = .rngL
              · subst h3; exact snd_rngL IH ok Z h
              · exact snd_bi IH ok Z (fun ts z => hb ⟨ts, z⟩) ⟨h1, h2, h3⟩ h
      | mth mn i as => exact snd_mth IH ok Z h
      | comp el t it ifs own => exact snd_comp IHs ok Z h
      | comp2 el t it ifs t2 it2 ifs2 own => exact snd_comp2 IHs ok Z h
      | mtd md i as => exact snd_mtd IH ok Z h
      | rev a => exact snd_rev IH ok Z h
      | slen i => exact snd_slen IH ok Z h
      | sidx i a => exact snd_sidx IH ok Z h
      | jar i a => exact snd_jar IH ok Z h
      | _ => cases h
end
end GM

set_option maxRecDepth 100000
/-! GM: except suites -/
namespace GM
open PySem PySem.Spec PyProof.Rows L2
def clsE (cc : CC) (d : Nat) : Expr → Bool
  | .Name x _ => decide ((d, x) ∈ cc.cats) && gloB cc x
  | _ => false
def clsEs (cc : CC) : List Nat → List Expr → Bool
  | [], [] => true
  | d :: ds, e :: es => clsE cc d e && clsEs cc ds es
  | _, _ => false
def clsT (cc : CC) (ds : List Nat) : Expr → Bool
  | .Tuple es _ _ => clsEs cc ds es && decide (es.length ≤ LIM)
  | t => clsEs cc ds [t]
def chkHXs (rec : HX → Expr → Bool) : List HX → List Expr → Bool
  | [], [] => true
  | h :: hs, e :: es => rec h e && chkHXs rec hs es
  | _, _ => false
def chkHX (cc : CC) (i : Nat) : Nat → HX → Expr → Bool
  | 0, _, _ => false
  | n + 1, h, e => match h with
    | .con d => (match e with | .Constant c _ _ => conB d c | _ => false)
    | .att f => (match e with | .Attribute (.Name x _) g _ => decide (f = g) && nameB cc i x | _ => false)
    | .isx ds => (match e with | .Call (.Name y _) [.Name x _, t] [] _ => decide (y = "isinstance") && gloB cc y && nameB cc i x && clsT cc ds t | _ => false)
    | .tup hs => (match e with | .Tuple es _ _ => chkHXs (chkHX cc i n) hs es && decide (es.length ≤ LIM) | _ => false)
    | .and_ a b => (match e with | .BoolOp .And (x :: y :: es) p => chkHX cc i n a x && chkHX cc i n b (restB .And y es p) | _ => false)
    | .or_ a b => (match e with | .BoolOp .Or (x :: y :: es) p => chkHX cc i n a x && chkHX cc i n b (restB .Or y es p) | _ => false)
    | .not_ a => (match e with | .UnaryOp .Not x _ => chkHX cc i n a x | _ => false)
def chkHT (rec : HX → Expr → Bool) : Nat → HX → Expr → Bool
  | 0, _, _ => false
  | k + 1, h, e => match h with
    | .not_ a => (match e with | .UnaryOp .Not x _ => chkHT rec k a x | _ => false)
    | .and_ a b => (match e with | .BoolOp .And (x :: y :: es) p => chkHT rec k a x && chkHT rec k b (restB .And y es p) | _ => false)
    | .or_ a b => (match e with | .BoolOp .Or (x :: y :: es) p => chkHT rec k a x && chkHT rec k b (restB .Or y es p) | _ => false)
    | .isx ds => (match e with | .Call f es kw p => rec (.isx ds) (.Call f es kw p) | _ => false)
    | _ => false
def chkHSs (rec : HS → Stmt → Bool) : List HS → List Stmt → Bool
  | [], [] => true
  | h :: hs, e :: es => rec h e && chkHSs rec hs es
  | _, _ => false
def chkHS (cc : CC) (i : Nat) : Nat → HS → Stmt → Bool
  | 0, _, _ => false
  | n + 1, h, st => match h with
    | .ret e => (match st with | .Return (some v) _ => chkHX cc i n e v | _ => false)
    | .ite c a b => (match st with | .If t x y _ => chkHT (chkHX cc i n) n c t && chkHSs (chkHS cc i n) a x && chkHSs (chkHS cc i n) b y | _ => false)
theorem XR.mono {CT : CTab} {F F' : Hp} {x : EX} {cls : Value} {d : Option Addr} (s : Same F F') (h : XR CT F x cls d) : XR CT F' x cls d := by
  obtain ⟨C, ns, dx, vs, ds, e1, e2, e3, e4, e5, e6, e7⟩ := h
  exact ⟨C, ns, dx, vs, ds, e1, e2, e3, s _ _ e4, e5.mono s, e6, e7⟩
theorem zip_look {F : Hp} {f : Str} {r : D} : ∀ {ns : List Str} {vs : List V} {ds : List D}, Reps F vs ds → (ns.zip ds).lookup f = some r → ∃ v, (ns.zip vs).lookup f = some v ∧ Rep F v r ∧ f ∈ ns
  | [], _, _, _, h => by simp at h
  | n :: ns, _, _, .nil, h => by simp at h
  | n :: ns, v :: vs, d :: ds, .cons r1 r2, h => by
    rw [List.zip_cons_cons, List.lookup_cons] at h
    rw [List.zip_cons_cons, List.lookup_cons]
    cases e : f == n with
    | true =>
      rw [e] at h
      cases h
      exact ⟨v, rfl, r1, by rw [eq_of_beq e]; exact List.mem_cons_self⟩
    | false =>
      rw [e] at h
      obtain ⟨w, h1, h2, h3⟩ := zip_look r2 h
      exact ⟨w, h1, h2, List.mem_cons_of_mem _ h3⟩
/-- the suite's ground: slot i holds the error at a -/
def HG (CT : CTab) (i : Nat) (a : Addr) (cls : Value) (d : Option Addr) (x : EX) (F : Hp) (σ : L2.St) (H : Hp) : Prop := Same F H ∧ (∃ σ0 : L2.St, σ = σ0.set i (some (.ref a))) ∧ XR CT F x cls d
def tHX (CT : CTab) (i : Nat) (a : Addr) (cls : Value) (d : Option Addr) (h : HX) : TE := fun σ H Q => ∃ F x, HG CT i a cls d x F σ H ∧ ∃ r, hE h x = some r ∧ ∀ v F' H', Grow F H F' H' → Rep F' v r → Q v H'
def tHT (CT : CTab) (i : Nat) (a : Addr) (cls : Value) (d : Option Addr) (h : HX) : TT := fun σ H Q => ∃ F x, HG CT i a cls d x F σ H ∧ ∃ r, hE h x = some (.bool r) ∧ ∀ F' H', Grow F H F' H' → Q r H'
def tHXs (CT : CTab) (i : Nat) (a : Addr) (cls : Value) (d : Option Addr) (hs : List HX) : TA := fun σ H Q => ∃ F x, HG CT i a cls d x F σ H ∧ ∃ rs, hEs hs x = some rs ∧ ∀ vs F' H', Grow F H F' H' → Reps F' vs rs → Q vs H'
def hEnd (D : Ends) (F : Hp) (σ : L2.St) (H : Hp) : Option PyData → Prop
  | some d => ∀ v F' H', Grow F H F' H' → Rep F' v d → D.rt v H'
  | none => ∀ F' H', Grow F H F' H' → D.nx σ H'
def tHS (CT : CTab) (i : Nat) (a : Addr) (cls : Value) (d : Option Addr) (h : HS) : TS := fun D σ H => ∃ F x, HG CT i a cls d x F σ H ∧ ∃ r, hRun1 h x = some r ∧ hEnd D F σ H r
def tHSs (CT : CTab) (i : Nat) (a : Addr) (cls : Value) (d : Option Addr) (hs : List HS) : TS := fun D σ H => ∃ F x, HG CT i a cls d x F σ H ∧ ∃ r, hRun hs x = some r ∧ hEnd D F σ H r
theorem Grow.trans {F H F1 H1 F2 H2 : Hp} (g : Grow F H F1 H1) (g2 : Grow F1 H1 F2 H2) : Grow F H F2 H2 := ⟨g.f.trans g2.f, g2.le, g.h.trans g2.h, fun b hb => by
  rcases g2.new b hb with z | z
  · exact g.new b z
  · right
    cases e : H b with
    | none => rfl
    | some o => have := g.h _ _ e; rw [z] at this; cases this⟩
theorem PS.imp' {X : Cx} {e : Stmt} {t t' : TS} (h : PS X e t) (f : ∀ D σ H, t' D σ H → t D σ H) : PS X e t' := ⟨fun pins s σ H D I q => h.run pins s σ H D I (f _ _ _ q)⟩
theorem PSs.imp' {X : Cx} {e : List Stmt} {t t' : TS} (h : PSs X e t) (f : ∀ D σ H, t' D σ H → t D σ H) : PSs X e t' := ⟨fun pins s σ H D I q => h.run pins s σ H D I (f _ _ _ q)⟩
section
variable {Γ : Nat → Option FS} {CT : CTab} {X : Cx} {W : WX} {cc : CC} {i : Nat} {a : Addr} {oe : Obj} {cls : Value} {d : Option Addr} {pn : List (Addr × Obj)}
theorem HG.grow {x : EX} {F H F' H' : Hp} {σ : L2.St} (h : HG CT i a cls d x F σ H) (g : Grow F H F' H') : HG CT i a cls d x F' σ H' := ⟨g.le, h.2.1, h.2.2.mono g.f⟩
theorem HG.slot {x : EX} {F H : Hp} {σ : L2.St} {pins : List (Addr × Obj)} {s : Shared} {nm : Str} (h : HG CT i a cls d x F σ H) (I : Inv X pins σ H s) (hi : X.N[i]? = some nm) : σ[i]? = some (some (.ref a)) := by
  obtain ⟨σ0, e⟩ := h.2.1
  have hl := I.len
  have : i < X.N.length := (List.getElem?_eq_some_iff.mp hi).1
  rw [e] at hl ⊢
  rw [List.length_set] at hl
  rw [List.getElem?_set_self (by omega)]
theorem pe_cat (ok : Ok Γ CT X W cc) {d : Nat} {e : Expr} (h : clsE cc d e = true) : ∃ v D, ClsV v D ∧ PE (X.suite a ((a, oe) :: pn)) e (fun _ H Q => Q v H) ∧ (∀ es, starEach (e :: es) X.env = (false, eval e X.env) :: starEach es X.env) ∧ ∀ c C ns, CT c = some (C, ns) → PySem.W.exmOne X.K (.ref C) D = some (subX c d) ∧ PySem.W.kitOne X.K (.ref C) D = some (subX c d) := by
  cases e with
  | Name x p =>
    obtain ⟨h1, h2⟩ := and_split (show (decide ((d, x) ∈ cc.cats) && gloB cc x) = true from h)
    obtain ⟨gl, gd⟩ := ok.gl h2
    obtain ⟨D, hD, hk⟩ := ok.cat d x (of_decide_eq_true h1)
    rcases hD with ⟨A, rfl, hm⟩ | ⟨T, rfl, hm, hb, hn⟩
    · exact ⟨.ref A, _, .own A, ⟨fun pins s σ H Q I q => ld_glob I gl hm ⟨.ref A, H, I, rfl, q⟩ gd⟩, fun _ => name_star, hk⟩
    · exact ⟨.ty T, _, .ty T, ⟨fun pins s σ H Q I q => (pe_bltn (X := X.suite a ((a, oe) :: pn)) gl hm hb (show RelV (V.ty T) (.type T) from rfl) hn gd).run pins s σ H Q I q⟩, fun _ => name_star, hk⟩
  | _ => cases h
theorem pa_cats (ok : Ok Γ CT X W cc) : ∀ {ds : List Nat} {es : List Expr}, clsEs cc ds es = true → ∃ vs Ds, Paired ClsV vs Ds ∧ PA (X.suite a ((a, oe) :: pn)) es (fun _ H Q => Q vs H) ∧ vs.length = es.length ∧ ∀ c C ns, CT c = some (C, ns) → PySem.W.kitAny X.K (.ref C) Ds = some (ds.any fun d => subX c d)
  | [], [], _ => ⟨[], [], .nil, PA.imp pa_nil fun σ H Q q => q, rfl, fun _ _ _ _ => kitAny_nil⟩
  | d :: ds, e :: es, h => by
    obtain ⟨h1, h2⟩ := and_split h
    obtain ⟨v, D, c1, p1, s1, k1⟩ := pe_cat ok h1
    obtain ⟨vs, Ds, c2, p2, l2, k2⟩ := pa_cats ok h2
    refine ⟨v :: vs, D :: Ds, .cons c1 c2, PA.imp (pa_cons p1 p2 (s1 es)) fun σ H Q q => q, by simp [l2], fun c C ns hc => ?_⟩
    refine kitAny_cons (k1 c C ns hc).2 (fun e => ?_) fun e => ?_
    · rw [k2 c C ns hc]
      show _ = some (subX c d || ds.any fun d => subX c d)
      rw [e]; rfl
    · show (subX c d || ds.any fun d => subX c d) = true
      rw [e]; rfl
  | [], _ :: _, h => by cases h
  | _ :: _, [], h => by cases h
theorem ok_su (ok : Ok Γ CT X W cc) (hz : Zc cls d oe) : ∀ {i : Nat} {x : Str}, nameB cc i x = true → ∀ {pos : Pos}, PE (X.suite a ((a, oe) :: pn)) (.Name x pos) (tVar i) := fun {i x} h pos => by
  obtain ⟨h1, h2, h3, h4⟩ := ok.name h
  exact pe_var h1 h2 h3 h4
theorem restHX {n : Nat} {h : HX} {op : BoolOp} {y : Expr} {es : List Expr} {p : Pos} {t : TE} (hr : chkHX cc i n h (restB op y es p) = true) (rec : ∀ e, chkHX cc i n h e = true → PE (X.suite a ((a, oe) :: pn)) e t) : PE (X.suite a ((a, oe) :: pn)) (.BoolOp op (y :: es) p) t := by
  cases es with
  | nil => exact pe_one (rec y hr)
  | cons e es => exact rec _ hr
theorem starHX {n : Nat} {h : HX} {e : Expr} (hc : chkHX cc i n h e = true) (es : List Expr) (env : PySem.Env) : starEach (e :: es) env = (false, eval e env) :: starEach es env := by
  cases e with
  | Starred v p =>
    cases n with
    | zero => cases hc
    | succ n => cases h <;> cases hc
  | _ => rfl
theorem chkHXs_len {rec : HX → Expr → Bool} : ∀ {hs : List HX} {es : List Expr}, chkHXs rec hs es = true → hs.length = es.length
  | [], [], _ => rfl
  | h :: hs, e :: es, hc => by
    obtain ⟨_, h2⟩ := and_split hc
    simp [chkHXs_len h2]
  | [], _ :: _, h => by cases h
  | _ :: _, [], h => by cases h
theorem hEs_len {x : EX} : ∀ {hs : List HX} {rs : List PyData}, hEs hs x = some rs → rs.length = hs.length
  | [], rs, e => by cases e; rfl
  | h :: hs, rs, e => by
    have e : (match hE h x with | some d => (match hEs hs x with | some ds => some (d :: ds) | none => none) | none => none) = some rs := e
    cases e1 : hE h x with
    | none => rw [e1] at e; cases e
    | some r1 =>
      rw [e1] at e
      cases e2 : hEs hs x with
      | none => rw [e2] at e; cases e
      | some r2 =>
        rw [e2] at e
        cases e
        simp [hEs_len e2]
theorem bool_of {v : V} {F : Hp} {b : Bool} (r : Rep F v (.bool b)) : v = .bl b := by cases r; rfl
mutual
theorem snd_HX (ok : Ok Γ CT X W cc) (hz : Zc cls d oe) (hf : ∃ vs, oe.data = .fields vs) {nm : Str} (hi : X.N[i]? = some nm) : ∀ (n : Nat) (h : HX) (e : Expr), chkHX cc i n h e = true → PE (X.suite a ((a, oe) :: pn)) e (tHX CT i a cls d h)
  | 0, _, _, hc => by cases hc
  | n + 1, .con c, e, hc => by
    cases e with
    | Constant k j p =>
      have h' : conB c k = true := hc
      cases c <;> cases k <;> first | (cases h'; done) | skip
      · exact PE.imp pe_non fun σ H Q ⟨F, x, hg, r, er, q⟩ => by cases er; exact q _ F H (.refl hg.1) .non
      · have e1 := eq_of_beq h'
        subst e1
        exact PE.imp pe_bl fun σ H Q ⟨F, x, hg, r, er, q⟩ => by cases er; exact q _ F H (.refl hg.1) (.bl _)
      · have e1 := of_decide_eq_true h'
        subst e1
        exact PE.imp pe_int fun σ H Q ⟨F, x, hg, r, er, q⟩ => by cases er; exact q _ F H (.refl hg.1) (.int _)
      · have e1 := of_decide_eq_true h'
        subst e1
        exact PE.imp pe_str fun σ H Q ⟨F, x, hg, r, er, q⟩ => by cases er; exact q _ F H (.refl hg.1) (.str _)
    | _ => cases hc
  | n + 1, .att f, e, hc => by
    cases e with
    | Attribute o g p =>
      cases o with
      | Name x xp =>
        obtain ⟨h1, h2⟩ := and_split (show (decide (f = g) && nameB cc i x) = true from hc)
        have e1 := of_decide_eq_true h1
        subst e1
        refine ⟨fun pins s σ H Q I ⟨F, x', hg, r, er, q⟩ => ?_⟩
        have hs := hg.slot I hi
        obtain ⟨C, ns, dx, vs, ds, e1, e2, e3, e4, e5, e6, e7⟩ := hg.2.2
        subst e2 e3
        have E := ok.xc _ _ _ e1
        have er : x'.fs.lookup f = some r := er
        rw [e7] at er
        obtain ⟨v, k1, k2, k3⟩ := zip_look e5 er
        exact (pe_xf E.xf (E.no f k3) hz hf (ok_su ok hz h2)).run pins s σ H Q I ⟨_, hs, rfl, rfl, dx, _, v, rfl, hg.1 _ _ e4, k1, q v F H (.refl hg.1) k2⟩
      | _ => cases hc
    | _ => cases hc
  | n + 1, .isx ds, e, hc => by
    match e, hc with
    | .Call (.Name y yp) [.Name x xp, t] [] p, hc =>
      obtain ⟨hc, h4⟩ := and_split (show (decide (y = "isinstance") && gloB cc y && nameB cc i x && clsT cc ds t) = true from hc)
      obtain ⟨hc, h3⟩ := and_split hc
      obtain ⟨h1, h2⟩ := and_split hc
      have ey := of_decide_eq_true h1
      subst ey
      obtain ⟨gl, gd⟩ := ok.gl h2
      refine ⟨fun pins s σ H Q I ⟨F, x', hg, r, er, q⟩ => ?_⟩
      have hs := hg.slot I hi
      obtain ⟨C, ns, dx, vs, fs, e1, e2, e3, e4, e5, e6, e7⟩ := hg.2.2
      subst e2 e3
      have E := ok.xc _ _ _ e1
      cases er
      have pv := ok_su (a := a) (oe := oe) (pn := pn) ok hz h3 (pos := xp)
      by_cases ht : ∃ es k tp, t = .Tuple es k tp
      · obtain ⟨es, k, tp, rfl⟩ := ht
        obtain ⟨h4, h5⟩ := and_split (show (clsEs cc ds es && decide (es.length ≤ LIM)) = true from h4)
        obtain ⟨cs, Ds, c1, pt, pl, pk⟩ := pa_cats (a := a) (oe := oe) (pn := pn) ok h4
        have pa := pa_cons pv (pa_cons (pe_tup (x1 := k) (pos := tp) pt) pa_nil rfl) (name_star (p := xp))
        refine (pe_callB (call_isXT E hz hf) gl (ok.blt _ (by decide)) (by decide +kernel) pa (by decide) gd name_star rfl).run pins s σ H Q I ?_
        refine ⟨_, hs, plus_len pl (of_decide_eq_true h5), fun tpa htp => ?_⟩
        exact ⟨tpa, cs, Ds, _, _, rfl, upd_same, c1, pk _ _ _ e1, by rw [upd_ne (ne_of_none (hg.1 _ _ e4) htp)]; exact hg.1 _ _ e4, q _ _ _ (Grow.own hg.1 htp) (.bl _)⟩
      · have h4 : clsEs cc ds [t] = true := by
          cases t <;> first | exact h4 | exact absurd ⟨_, _, _, rfl⟩ ht
        match ds, h4 with
        | [c], h4 =>
          obtain ⟨h4, _⟩ := and_split h4
          obtain ⟨v, D, c1, p1, s1, k1⟩ := pe_cat (a := a) (oe := oe) (pn := pn) ok h4
          have pa := pa_cons pv (pa_cons p1 pa_nil (s1 [])) (name_star (p := xp))
          refine (pe_callB (call_isX E hz hf) gl (ok.blt _ (by decide)) (by decide +kernel) pa (by decide) gd name_star (by rw [s1]; rfl)).run pins s σ H Q I ?_
          refine ⟨_, hs, v, D, _, _, rfl, c1, (k1 _ _ _ e1).2, hg.1 _ _ e4, ?_⟩
          have := q _ _ _ (Grow.refl hg.1) (.bl _)
          simpa using this
        | [], h4 => cases h4
        | _ :: _ :: _, h4 => obtain ⟨_, h4⟩ := and_split h4; cases h4
  | n + 1, .tup hs, e, hc => by
    cases e with
    | Tuple es k p =>
      obtain ⟨h1, h2⟩ := and_split (show (chkHXs (chkHX cc i n) hs es && decide (es.length ≤ LIM)) = true from hc)
      refine PE.imp (pe_tup (snd_HXs ok hz hf hi n hs es h1)) fun σ H Q ⟨F, x, hg, r, er, q⟩ => ?_
      have er : (match hEs hs x with | some ds => some (PyData.tuple ds) | none => none) = some r := er
      cases e1 : hEs hs x with
      | none => rw [e1] at er; cases er
      | some rs =>
        rw [e1] at er
        cases er
        refine ⟨F, x, hg, rs, e1, fun vs F1 H1 g rv => ⟨plus_len (rv.length.trans ((hEs_len e1).trans (chkHXs_len h1))) (of_decide_eq_true h2), fun tp htp => ?_⟩⟩
        exact q _ _ _ (g.trans (Grow.froz g.le htp)) (.tup upd_same (rv.mono (same_upd (noneF g.le htp))))
    | _ => cases hc
  | n + 1, .and_ b c, e, hc => by
    match e, hc with
    | .BoolOp .And (x :: y :: es) p, hc =>
      obtain ⟨h1, h2⟩ := and_split (show (chkHX cc i n b x && chkHX cc i n c (restB .And y es p)) = true from hc)
      refine PE.imp (pe_andT (snd_HX ok hz hf hi n b x h1) (restHX h2 fun e he => snd_HX ok hz hf hi n c e he)) fun σ H Q ⟨F, x', hg, r, er, q⟩ => ?_
      have er : (match hE b x' with | some (.bool true) => hE c x' | some (.bool false) => some (.bool false) | _ => none) = some r := er
      split at er
      · rename_i e1
        refine ⟨F, x', hg, _, e1, fun v F1 H1 g rv => ⟨true, by rw [bool_of rv]; rfl, ?_⟩⟩
        rw [if_pos rfl]
        exact ⟨F1, x', hg.grow g, r, er, fun v2 F2 H2 g2 rv2 => q v2 F2 H2 (g.trans g2) rv2⟩
      · rename_i e1
        cases er
        refine ⟨F, x', hg, _, e1, fun v F1 H1 g rv => ⟨false, by rw [bool_of rv]; rfl, ?_⟩⟩
        rw [if_neg Bool.false_ne_true]
        exact q v F1 H1 g rv
      · cases er
  | n + 1, .or_ b c, e, hc => by
    match e, hc with
    | .BoolOp .Or (x :: y :: es) p, hc =>
      obtain ⟨h1, h2⟩ := and_split (show (chkHX cc i n b x && chkHX cc i n c (restB .Or y es p)) = true from hc)
      refine PE.imp (pe_orT (snd_HX ok hz hf hi n b x h1) (restHX h2 fun e he => snd_HX ok hz hf hi n c e he)) fun σ H Q ⟨F, x', hg, r, er, q⟩ => ?_
      have er : (match hE b x' with | some (.bool true) => some (.bool true) | some (.bool false) => hE c x' | _ => none) = some r := er
      split at er
      · rename_i e1
        cases er
        refine ⟨F, x', hg, _, e1, fun v F1 H1 g rv => ⟨true, by rw [bool_of rv]; rfl, ?_⟩⟩
        rw [if_pos rfl]
        exact q v F1 H1 g rv
      · rename_i e1
        refine ⟨F, x', hg, _, e1, fun v F1 H1 g rv => ⟨false, by rw [bool_of rv]; rfl, ?_⟩⟩
        rw [if_neg Bool.false_ne_true]
        exact ⟨F1, x', hg.grow g, r, er, fun v2 F2 H2 g2 rv2 => q v2 F2 H2 (g.trans g2) rv2⟩
      · cases er
  | n + 1, .not_ b, e, hc => by
    match e, hc with
    | .UnaryOp .Not x p, hc =>
      refine PE.imp (pe_notT (snd_HX ok hz hf hi n b x hc)) fun σ H Q ⟨F, x', hg, r, er, q⟩ => ?_
      have er : (match hE b x' with | some (.bool t) => some (PyData.bool (!t)) | _ => none) = some r := er
      split at er
      · rename_i t e1
        cases er
        refine ⟨F, x', hg, _, e1, fun v F1 H1 g rv => ⟨t, by rw [bool_of rv]; rfl, q _ F1 H1 g (.bl _)⟩⟩
      · cases er
theorem snd_HXs (ok : Ok Γ CT X W cc) (hz : Zc cls d oe) (hf : ∃ vs, oe.data = .fields vs) {nm : Str} (hi : X.N[i]? = some nm) : ∀ (n : Nat) (hs : List HX) (es : List Expr), chkHXs (chkHX cc i n) hs es = true → PA (X.suite a ((a, oe) :: pn)) es (tHXs CT i a cls d hs)
  | n, [], [], _ => PA.imp pa_nil fun σ H Q ⟨F, x, hg, r, er, q⟩ => by
    cases er
    exact q [] F H (.refl hg.1) .nil
  | n, h :: hs, e :: es, hc => by
    obtain ⟨h1, h2⟩ := and_split hc
    refine PA.imp (pa_cons (snd_HX ok hz hf hi n h e h1) (snd_HXs ok hz hf hi n hs es h2) (starHX h1 es _)) fun σ H Q ⟨F, x, hg, r, er, q⟩ => ?_
    have er : (match hE h x with | some d => (match hEs hs x with | some ds => some (d :: ds) | none => none) | none => none) = some r := er
    cases e1 : hE h x with
    | none => rw [e1] at er; cases er
    | some r1 =>
      rw [e1] at er
      cases e2 : hEs hs x with
      | none => rw [e2] at er; cases er
      | some r2 =>
        rw [e2] at er
        cases er
        exact ⟨F, x, hg, r1, e1, fun v F1 H1 g rv => ⟨F1, x, hg.grow g, r2, e2, fun vs F2 H2 g2 rvs => q (v :: vs) F2 H2 (g.trans g2) (.cons (rv.mono g2.f) rvs)⟩⟩
  | n, [], _ :: _, hc => by cases hc
  | n, _ :: _, [], hc => by cases hc
end
theorem snd_HT (ok : Ok Γ CT X W cc) (hz : Zc cls d oe) (hf : ∃ vs, oe.data = .fields vs) {nm : Str} (hi : X.N[i]? = some nm) {n : Nat} : ∀ (k : Nat) (h : HX) (e : Expr), chkHT (chkHX cc i n) k h e = true → PT (X.suite a ((a, oe) :: pn)) e (tHT CT i a cls d h)
  | 0, _, _, hc => by cases hc
  | k + 1, h, e, hc => by
    have rest : ∀ {op : BoolOp} {b : HX} {y : Expr} {es : List Expr} {p : Pos}, chkHT (chkHX cc i n) k b (restB op y es p) = true → PW (X.suite a ((a, oe) :: pn)) (.BoolOp op (y :: es) p) (tHT CT i a cls d b) := by
      intro op b y es p hb
      cases es with
      | nil => cases op with
        | And => exact pw_and1 (snd_HT ok hz hf hi k b y hb)
        | Or => exact pw_or1 (snd_HT ok hz hf hi k b y hb)
      | cons e es =>
        have hp := snd_HT ok hz hf hi k b _ hb
        exact ⟨fun wh pins s σ H Q I q => hp.run pins s σ H Q I q⟩
    cases h with
    | not_ b =>
      match e, hc with
      | .UnaryOp .Not x p, hc =>
        refine PT.imp (pt_not (snd_HT ok hz hf hi k b x hc)) fun σ H Q ⟨F, x', hg, r, er, q⟩ => ?_
        have er : (match hE b x' with | some (.bool t) => some (PyData.bool (!t)) | _ => none) = some (.bool r) := er
        split at er
        · rename_i t e1
          cases er
          exact ⟨F, x', hg, t, e1, fun F1 H1 g => q F1 H1 g⟩
        · cases er
    | and_ b c =>
      match e, hc with
      | .BoolOp .And (x :: y :: es) p, hc =>
        obtain ⟨h1, h2⟩ := and_split (show (chkHT (chkHX cc i n) k b x && chkHT (chkHX cc i n) k c (restB .And y es p)) = true from hc)
        refine PT.imp (PW.pt (pw_and (snd_HT ok hz hf hi k b x h1) (rest h2))) fun σ H Q ⟨F, x', hg, r, er, q⟩ => ?_
        have er : (match hE b x' with | some (.bool true) => hE c x' | some (.bool false) => some (.bool false) | _ => none) = some (.bool r) := er
        split at er
        · rename_i e1
          exact ⟨F, x', hg, true, e1, fun F1 H1 g => ⟨F1, x', hg.grow g, r, er, fun F2 H2 g2 => q F2 H2 (g.trans g2)⟩⟩
        · rename_i e1
          cases er
          exact ⟨F, x', hg, false, e1, fun F1 H1 g => q F1 H1 g⟩
        · cases er
    | or_ b c =>
      match e, hc with
      | .BoolOp .Or (x :: y :: es) p, hc =>
        obtain ⟨h1, h2⟩ := and_split (show (chkHT (chkHX cc i n) k b x && chkHT (chkHX cc i n) k c (restB .Or y es p)) = true from hc)
        refine PT.imp (PW.pt (pw_or (snd_HT ok hz hf hi k b x h1) (rest h2))) fun σ H Q ⟨F, x', hg, r, er, q⟩ => ?_
        have er : (match hE b x' with | some (.bool true) => some (.bool true) | some (.bool false) => hE c x' | _ => none) = some (.bool r) := er
        split at er
        · rename_i e1
          cases er
          exact ⟨F, x', hg, true, e1, fun F1 H1 g => q F1 H1 g⟩
        · rename_i e1
          exact ⟨F, x', hg, false, e1, fun F1 H1 g => ⟨F1, x', hg.grow g, r, er, fun F2 H2 g2 => q F2 H2 (g.trans g2)⟩⟩
        · cases er
    | isx ds =>
      match e, hc with
      | .Call f es kw p, hc =>
        refine PT.imp (pt_truth (snd_HX ok hz hf hi n (.isx ds) (.Call f es kw p) hc) (by intro _; rfl)) fun σ H Q ⟨F, x', hg, r, er, q⟩ => ?_
        exact ⟨F, x', hg, _, er, fun v F1 H1 g rv => ⟨r, by rw [bool_of rv]; rfl, q F1 H1 g⟩⟩
    | _ => cases hc
theorem snd_HSs {n : Nat} (rec : ∀ (h : HS) (st : Stmt), chkHS cc i n h st = true → PS (X.suite a ((a, oe) :: pn)) st (tHS CT i a cls d h)) : ∀ (hs : List HS) (sts : List Stmt), chkHSs (chkHS cc i n) hs sts = true → PSs (X.suite a ((a, oe) :: pn)) sts (tHSs CT i a cls d hs)
  | [], [], _ => PSs.imp' pss_nil fun D σ H ⟨F, x, hg, r, er, q⟩ => by
    cases er
    exact q F H (.refl hg.1)
  | h :: hs, st :: sts, hc => by
    obtain ⟨h1, h2⟩ := and_split hc
    refine PSs.imp' (pss_cons (rec h st h1) (snd_HSs rec hs sts h2)) fun D σ H ⟨F, x, hg, r, er, q⟩ => ?_
    have er : (match hRun1 h x with | some none => hRun hs x | r => r) = some r := er
    cases e1 : hRun1 h x with
    | none => rw [e1] at er; cases er
    | some w =>
      rw [e1] at er
      cases w with
      | some d =>
        cases er
        exact ⟨F, x, hg, _, e1, fun v F1 H1 g rv => q v F1 H1 g rv⟩
      | none =>
        refine ⟨F, x, hg, none, e1, fun F1 H1 g => ⟨F1, x, hg.grow g, r, er, ?_⟩⟩
        cases r with
        | none => exact fun F2 H2 g2 => q F2 H2 (g.trans g2)
        | some d => exact fun v F2 H2 g2 rv => q v F2 H2 (g.trans g2) rv
  | [], _ :: _, hc => by cases hc
  | _ :: _, [], hc => by cases hc
theorem run_ret {e : HX} {x : EX} {r : Option PyData} (h : hRun1 (.ret e) x = some r) : ∃ d, hE e x = some d ∧ r = some d := by
  rw [hRun1] at h
  split at h
  · cases h; exact ⟨_, by assumption, rfl⟩
  · cases h
theorem run_ite {c : HX} {b1 b2 : List HS} {x : EX} {r : Option PyData} (h : hRun1 (.ite c b1 b2) x = some r) : (hE c x = some (.bool true) ∧ hRun b1 x = some r) ∨ (hE c x = some (.bool false) ∧ hRun b2 x = some r) := by
  rw [hRun1] at h
  split at h
  · exact .inl ⟨by assumption, h⟩
  · exact .inr ⟨by assumption, h⟩
  · cases h
theorem snd_ret' (ok : Ok Γ CT X W cc) (hz : Zc cls d oe) (hf : ∃ vs, oe.data = .fields vs) {nm : Str} (hi : X.N[i]? = some nm) {n : Nat} {e : HX} {v : Expr} {p : Pos} (hc : chkHX cc i n e v = true) : PS (X.suite a ((a, oe) :: pn)) (.Return (some v) p) (tHS CT i a cls d (.ret e)) := by
  refine PS.imp' (ps_ret (snd_HX ok hz hf hi n e v hc)) ?_
  intro D σ H h
  obtain ⟨F, x, hg, r, er, q⟩ := h
  obtain ⟨d', e1, rfl⟩ := run_ret er
  exact ⟨F, x, hg, d', e1, fun v F1 H1 g rv => q v F1 H1 g rv⟩
theorem snd_HS (ok : Ok Γ CT X W cc) (hz : Zc cls d oe) (hf : ∃ vs, oe.data = .fields vs) {nm : Str} (hi : X.N[i]? = some nm) : ∀ (n : Nat) (h : HS) (st : Stmt), chkHS cc i n h st = true → PS (X.suite a ((a, oe) :: pn)) st (tHS CT i a cls d h)
  | 0, _, _, hc => by cases hc
  | n + 1, .ret e, st, hc => by
    cases st with
    | Return o p =>
      cases o with
      | some v => exact snd_ret' ok hz hf hi (n := n) hc
      | none => cases hc
    | _ => cases hc
  | n + 1, .ite c b1 b2, st, hc => by
    cases st with
    | If t y z p =>
      obtain ⟨hc, h3⟩ := and_split (show (chkHT (chkHX cc i n) n c t && chkHSs (chkHS cc i n) b1 y && chkHSs (chkHS cc i n) b2 z) = true from hc)
      obtain ⟨h1, h2⟩ := and_split hc
      refine PS.imp' (ps_if (snd_HT ok hz hf hi n c t h1) (snd_HSs (snd_HS ok hz hf hi n) b1 y h2) (snd_HSs (snd_HS ok hz hf hi n) b2 z h3)) ?_
      intro D σ H h
      obtain ⟨F, x, hg, r, er, q⟩ := h
      have ends : ∀ {F1 H1}, Grow F H F1 H1 → hEnd D F1 σ H1 r := fun {F1 H1} g => by
        cases r with
        | none => exact fun F2 H2 g2 => q F2 H2 (g.trans g2)
        | some d => exact fun v F2 H2 g2 rv => q v F2 H2 (g.trans g2) rv
      rcases run_ite er with ⟨e1, er⟩ | ⟨e1, er⟩
      · refine ⟨F, x, hg, true, e1, fun F1 H1 g => ?_⟩
        show tHSs CT i a cls d b1 D σ H1
        exact ⟨F1, x, hg.grow g, r, er, ends g⟩
      · refine ⟨F, x, hg, false, e1, fun F1 H1 g => ?_⟩
        show tHSs CT i a cls d b2 D σ H1
        exact ⟨F1, x, hg.grow g, r, er, ends g⟩
    | _ => cases hc
end
end GM

set_option maxRecDepth 100000
/-! GM: statements keep what wpS says -/
namespace GM
open PySem PySem.Spec PyProof.Rows L2
def isComp : Expr → Bool
  | .ListComp .. => true
  | .SetComp .. => true
  | .DictComp .. => true
  | _ => false
def funB (sc : Scope) : Bool := match sc.kind with
  | .function => true
  | _ => false
/-- name = value: how it is stored -/
def asgV (cc : CC) (x : Str) (px : Pos) : Expr → Bool
  | .ListComp _ _ sc pos => decide (cc.sc.names.lookup x = some .cell) || (funB cc.sc && decide (cc.sc.names.lookup x = some .local) && (px.line == pos.line) && !(sc.names.any fun (n, k) => n == x && (k == .local || k == .cell)))
  | .SetComp .. => false
  | .DictComp .. => false
  | _ => true
/-- a tuple of targets: not stored from the right -/
def tupV (ts : List Expr) : Expr → Bool
  | .Tuple vs _ _ => !(ts.length == 2 || ts.length == 3) || vs.all (foldedForSure 8)
  | _ => true
def starB : Expr → Bool
  | .Starred .. => true
  | _ => false
def parV (cc : CC) (x y : Str) (px py : Pos) (a b : Expr) : Bool := funB cc.sc && decide (cc.sc.names.lookup x = some .local) && decide (cc.sc.names.lookup y = some .local) && (py.line == px.line) && !(x == y) && !(starB a) && !(starB b) && !([a, b].all (foldedForSure 8)) && !([a, b].all (constantsAlone 8))
def augB (op : BOp) (o : Operator) : Bool := match op, o with
  | .add, .Add => true
  | .sub, .Sub => true
  | _, _ => false
def chkSs (rec : S → Stmt → Bool) : List S → List Stmt → Bool
  | [], [] => true
  | s :: ss, t :: ts => rec s t && chkSs rec ss ts
  | _, _ => false
def isSub0 (cc : CC) (i : Nat) (e : Expr) : Bool := match e with
  | .Subscript (.Name x _) (.Constant (.int c) _ _) _ => nameB cc i x && decide (c = 0)
  | _ => false
def isLen0 (cc : CC) (i : Nat) (e : Expr) : Bool := match e with
  | .Call (.Name x _) [y] [] _ => decide (x = "len") && gloB cc x && isSub0 cc i y
  | _ => false
def isPop0 (cc : CC) (i : Nat) (e : Expr) : Bool := match e with
  | .Call (.Attribute o nm ap) [] [] p => isSub0 cc i o && decide (nm = "pop") && (ap.endLine == p.line)
  | _ => false
def isIntPop (cc : CC) (i : Nat) (e : Expr) : Bool := match e with
  | .Call (.Name x _) [y] [] _ => decide (x = "int") && gloB cc x && isPop0 cc i y
  | _ => false
def isDip (cc : CC) (i j : Nat) (e : Expr) : Bool := match e with
  | .BinOp l o (.Name m _) _ => decide (o = .Mod) && isIntPop cc i l && nameB cc j m
  | _ => false
def isZ (e : Expr) : Bool := match e with
  | .Constant (.int c) _ _ => decide (c = 0)
  | _ => false
def isGt0 (cc : CC) (i : Nat) (e : Expr) : Bool := match e with
  | .Compare l [o] [r] _ => decide (o = .Gt) && isZ r && isLen0 cc i l
  | _ => false
def isRetDip (cc : CC) (i j : Nat) (a : List Stmt) : Bool := match a with
  | [.Return (some e) _] => isDip cc i j e
  | _ => false
def chkS : Nat → CC → S → Stmt → Bool
  | 0, _, _, _ => false
  | n + 1, cc, s, st => match s with
    | .asg (.nm i) e => (match st with | .Assign [.Name x px] v _ => decide (cc.N[i]? = some x) && cc.st x && chkE n cc e v && asgV cc x px v | _ => false)
    | .asg (.tp ts) e => (match st with | .Assign [.Tuple tgs k tp] v _ => chkG cc n (.tp ts) (.Tuple tgs k tp) && chkE n cc e v && tupV tgs v | _ => false)
    | .seti i ix e => (match st with | .Assign [.Subscript (.Name x _) ie _] v _ => nameB cc i x && chkE n cc ix ie && chkE n cc e v | _ => false)
    | .augi i ix op e => (match st with | .AugAssign (.Subscript (.Name x _) ie _) o v _ => augB op o && nameB cc i x && chkE n cc ix ie && chkE n cc e v | _ => false)
    | .aug i op e => (match st with | .AugAssign (.Name x _) o v _ => augB op o && decide (cc.N[i]? = some x) && cc.st x && chkE n cc e v | _ => false)
    | .par i j a b => (match st with | .Assign [.Tuple [.Name x px, .Name y py] _ _] (.Tuple [va, vb] _ _) _ => decide (cc.N[i]? = some x) && decide (cc.N[j]? = some y) && chkE n cc a va && chkE n cc b vb && parV cc x y px py va vb | _ => false)
    | .ite c a b => (match st with | .If t x y _ => chkT (chkE n cc) n c t && chkSs (chkS n cc) a x && chkSs (chkS n cc) b y | _ => false)
    | .whl c b => (match st with | .While t x [] _ => chkT (chkE n cc) n c t && chkSs (chkS n cc) b x | _ => false)
    | .for_ t it b => (match st with | .For tg iter x [] _ => chkI cc (chkE n cc) tg it iter && chkG cc n t tg && chkSs (chkS n cc) b x | _ => false)
    | .ret e => (match st with | .Return (some v) _ => chkE n cc e v | _ => false)
    | .ret0 => (match st with | .Return none _ => true | _ => false)
    | .exp e => (match st with | .Expr v _ => chkE n cc e v && !isComp v | _ => false)
    | .jdip i j => (match st with | .If t a b _ => isGt0 cc i t && isRetDip cc i j a && b.isEmpty | _ => false)
    | .brk => (match st with | .Break _ => true | _ => false)
    | .cnt => (match st with | .Continue _ => true | _ => false)
    | .pas => (match st with | .Pass _ => true | .Expr (.Constant (.str _) _ _) _ => true | _ => false)
    | .rse c ns as => (match st with | .Raise (some (.Call (.Name x _) (e :: es) [] _)) none _ => decide ((c, x, ns) ∈ cc.excs) && gloB cc x && chkL (chkE n cc) as (e :: es) && decide (ns.length = as.length) | _ => false)
    | .tri b c i hs => (match st with | .Try body [.ExceptHandler (some (.Name x _)) (some nm) (s0 :: su) _] [] [] _ => decide ((c, x) ∈ cc.cats) && gloB cc x && decide (cc.N[i]? = some nm) && decide (cc.sc.names.lookup nm = some .local) && chkSs (chkS n cc) b body && chkHSs (chkHS cc i n) hs (s0 :: su) && cc.top | _ => false)
structure KOk (CT : CTab) (K : PySem.W.Frag) (W : WX) (Z : Zt) (F : Hp) (D : Ends) (k : GM.K) : Prop where
  nx : ∀ env', k.nx env' → ∀ σ' F' H', Same F F' → SR K Z F' H' σ' env' → D.nx σ' H'
  bk : ∀ env', k.bk env' → ∀ σ' F' H', Same F F' → SR K Z F' H' σ' env' → D.bk σ' H'
  ct : ∀ env', k.ct env' → ∀ σ' F' H', Same F F' → SR K Z F' H' σ' env' → D.ct σ' H'
  rt : ∀ u env', k.rt u env' → ∀ v σ' F' H', Same F F' → SR K Z F' H' σ' env' → RU Z F' H' σ' env' v u → D.rt v H'
  ex : ∀ x env', k.ex x env' → ∀ σ' cls d F' H', Same F F' → SR K Z F' H' σ' env' → XR CT F' x cls d → W cls d σ' H'
theorem KOk.mono {CT : CTab} {K : PySem.W.Frag} {W : WX} {Z : Zt} {F F' : Hp} {D : Ends} {k : GM.K} (h : KOk CT K W Z F D k) (s : Same F F') : KOk CT K W Z F' D k where
  nx := fun e q σ' G H' s' => h.nx e q σ' G H' (s.trans s')
  bk := fun e q σ' G H' s' => h.bk e q σ' G H' (s.trans s')
  ct := fun e q σ' G H' s' => h.ct e q σ' G H' (s.trans s')
  rt := fun u e q v σ' G H' s' => h.rt u e q v σ' G H' (s.trans s')
  ex := fun u e q σ' c d G H' s' => h.ex u e q σ' c d G H' (s.trans s')
theorem KOk.px {CT : CTab} {K : PySem.W.Frag} {W : WX} {Z : Zt} {F : Hp} {D : Ends} {k : GM.K} (h : KOk CT K W Z F D k) (σ : L2.St) : ∀ x e, k.ex x e → PX CT K W Z σ F x e := fun x e q cls d F' H' s' S' r => h.ex x e q σ cls d F' H' s' S' r
def tS (Γ : Nat → Option FS) (CT : CTab) (K : PySem.W.Frag) (W : WX) (Z : Zt) (n : Nat) (s : S) : TS := fun D σ H => ∃ F env k, SR K Z F H σ env ∧ KOk CT K W Z F D k ∧ wpS Γ n s env k
def tSs (Γ : Nat → Option FS) (CT : CTab) (K : PySem.W.Frag) (W : WX) (Z : Zt) (n : Nat) (ss : List S) : TS := fun D σ H => ∃ F env k, SR K Z F H σ env ∧ KOk CT K W Z F D k ∧ wpSs (wpS Γ n) ss env k
theorem PS.imp {X : Cx} {e : Stmt} {t t' : TS} (h : PS X e t) (f : ∀ D σ H, t' D σ H → t D σ H) : PS X e t' := ⟨fun pins s σ H D I q => h.run pins s σ H D I (f _ _ _ q)⟩
theorem PSs.imp {X : Cx} {e : List Stmt} {t t' : TS} (h : PSs X e t) (f : ∀ D σ H, t' D σ H → t D σ H) : PSs X e t' := ⟨fun pins s σ H D I q => h.run pins s σ H D I (f _ _ _ q)⟩
def SoundS (Γ : Nat → Option FS) (CT : CTab) (n : Nat) : Prop := ∀ (cc : CC) (X : Cx) (W : WX), Ok Γ CT X W cc → ∀ (Z : Zt) (s : S) (st : Stmt), chkS n cc s st = true → PS X st (tS Γ CT X.K W Z n s)
section
variable {Γ : Nat → Option FS} {CT : CTab} {X : Cx} {W : WX} {cc : CC} {Z : Zt} {n : Nat}
theorem snd_Ss (IH : SoundS Γ CT n) (ok : Ok Γ CT X W cc) (Z : Zt) : ∀ {ss : List S} {sts : List Stmt}, chkSs (chkS n cc) ss sts = true → PSs X sts (tSs Γ CT X.K W Z n ss)
  | [], [], _ => PSs.imp pss_nil fun D σ H ⟨F, env, k, S, ko, q⟩ => ko.nx env q σ F H same_refl S
  | s :: ss, st :: sts, h => by
    obtain ⟨h1, h2⟩ := and_split h
    refine PSs.imp (pss_cons (IH cc X W ok Z s st h1) (snd_Ss IH ok Z h2)) fun D σ H ⟨F, env, k, S, ko, q⟩ => ?_
    exact ⟨F, env, { k with nx := fun env1 => wpSs (wpS Γ n) ss env1 k }, S, ⟨fun env' q' σ' F' H' s' S' => ⟨F', env', k, S', ko.mono s', q'⟩, ko.bk, ko.ct, ko.rt, ko.ex⟩, q⟩
  | [], _ :: _, h => by cases h
  | _ :: _, [], h => by cases h
theorem fun_of {sc : Scope} (h : funB sc = true) : sc.kind = .function := by
  unfold funB at h
  split at h
  · assumption
  · cases h
theorem at_len (ok : Ok Γ CT X W cc) {i : Nat} {x : Str} (h : decide (cc.N[i]? = some x) = true) : X.N[i]? = some x := by rw [ok.n]; exact of_decide_eq_true h
theorem put_ge {env : Env} {i : Nat} {u : Option U} (h : ¬ i < env.length) : put env i u = env := by
  induction env generalizing i with
  | nil => rfl
  | cons w r ih => cases i with
    | zero => simp at h
    | succ i => show w :: put r i u = _; rw [ih (by simpa using h)]
theorem SR.store' {K : PySem.W.Frag} {F H : Hp} {σ : L2.St} {env : Env} {i : Nat} {v : V} {u : U} (S : SR K Z F H σ env) (ao : asgOk env i) (st : storable u) (h : RU Z F H σ env v u) : SR K Z F H (σ.set i (some v)) (put env i (some u)) := by
  by_cases hi : i < env.length
  · exact S.store hi (S.asg ao) st h
  · rw [put_ge hi, List.set_eq_of_length_le (by rw [← S.len]; omega)]
    exact S
theorem sw_cell {elt : Expr} {gs : List Comprehension} {scope : Scope} {pos py : Pos} {y : Str} {l : Nat} {env : PySem.Env} (hy : env.scope.names.lookup y = some .cell) : swapsWith (.ListComp elt gs scope pos) (some (.Name y py)) l env = pure false := by
  have ky : env.kindOf y = some .cell := hy
  have e : ((some NameKind.cell : Option NameKind) == some .local) = false := by decide
  unfold swapsWith
  simp only [ky, e, Bool.and_false, Bool.false_and]
theorem snd_asg (ok : Ok Γ CT X W cc) (Z : Zt) {i : Nat} {e : M} {st : Stmt} (h : chkS (n + 1) cc (.asg (.nm i) e) st = true) : PS X st (tS Γ CT X.K W Z (n + 1) (.asg (.nm i) e)) := by
  have IHs : ∀ k, k ≤ n → SoundE Γ CT k := fun k _ => soundE Γ CT k
  have M := wpE_mono Γ n
  have read : ∀ D σ H, tS Γ CT X.K W Z (n + 1) (.asg (.nm i) e) D σ H → tAsg (tE Γ CT X.K W Z n e) (gName i) D σ H := by
    rintro D σ H ⟨F, env, k, S, ko, q⟩
    rw [wpS_succ] at q
    unfold wpS1 at q
    dsimp only at q
    refine ⟨F, env, S, M _ _ _ _ _ _ q (ko.px σ) fun u env1 q1 v F1 H1 s1 S1 r1 => ?_⟩
    obtain ⟨⟨c1, c2⟩, q2⟩ := ckP_get q1
    exact ko.nx _ (envP_get q2) _ F1 H1 s1 (S1.store' c1 c2 r1)
  cases st with
  | Assign tgs v p =>
    cases tgs with
    | nil => cases h
    | cons a l => cases l with
      | cons b l => cases a <;> cases h
      | nil => cases a with
        | Name x px =>
          obtain ⟨h, h4⟩ := and_split (show (decide (cc.N[i]? = some x) && cc.st x && chkE n cc e v && asgV cc x px v) = true from h)
          obtain ⟨h, h3⟩ := and_split h
          obtain ⟨h1, h2⟩ := and_split h
          have hi := at_len ok h1
          obtain ⟨l1, l2⟩ := ok.st x h2
          by_cases hc : isComp v = false
          · refine PS.imp (ps_set ok.nd hi l1 (soundE Γ CT n cc X W ok Z e v h3) ?_ l2) read
            cases v <;> first | rfl | cases hc
          · cases v with
            | ListComp elt gs sc pos =>
              rcases Bool.or_eq_true_iff.mp (show (decide (cc.sc.names.lookup x = some .cell) || (funB cc.sc && decide (cc.sc.names.lookup x = some .local) && (px.line == pos.line) && !(sc.names.any fun (n, k) => n == x && (k == .local || k == .cell)))) = true from h4) with hcell | h4
              · exact PS.imp (ps_set ok.nd hi l1 (soundE Γ CT n cc X W ok Z e _ h3) (sw_cell (by rw [ok.sc]; exact of_decide_eq_true hcell)) l2) read
              obtain ⟨h4, k4⟩ := and_split (show (funB cc.sc && decide (cc.sc.names.lookup x = some .local) && (px.line == pos.line) && !(sc.names.any fun (n, k) => n == x && (k == .local || k == .cell))) = true from h4)
              obtain ⟨h4, k3⟩ := and_split h4
              obtain ⟨k1, k2⟩ := and_split h4
              cases n with
              | zero => cases h3
              | succ n =>
                cases e with
                | comp el t it ifs own =>
                  obtain ⟨tg, iter, cifs, rfl, wi, g, tt, te, h1, h2, h3, h4, h5, h6, h7⟩ := comp_parts (n := n) (fun k hk => IHs k (by omega)) ok Z h3
                  have hl : X.env.scope.names.lookup x = some .local := by rw [ok.sc]; exact of_decide_eq_true k2
                  have hk : X.env.scope.kind = .function := by rw [ok.sc]; exact fun_of k1
                  exact PS.imp (ps_setLc ok.calm ok.nd hi hl (sw_true hk hl k3 (not_true k4)) h1 h2 h3 h4 h5 (fold_ok h6)) fun D σ H q => h7 _ _ _ (read D σ H q)
                | comp2 el t it ifs t2 it2 ifs2 own =>
                  obtain ⟨tg, iter, cifs, tg1, iter1, cifs1, rfl, wi, g, tt, wi1, g1, tt1, te, h1, h2, hv, h3, h4, j1, j2, j3, h5, h6, h6', h7⟩ := comp2_parts (n := n) (fun k hk => IHs k (by omega)) ok Z h3
                  have hl : X.env.scope.names.lookup x = some .local := by rw [ok.sc]; exact of_decide_eq_true k2
                  have hk : X.env.scope.kind = .function := by rw [ok.sc]; exact fun_of k1
                  exact PS.imp (ps_setLc2 ok.calm ok.nd hi hl (sw_true hk hl k3 (not_true k4)) h1 h2 hv h3 h4 j1 j2 j3 h5 (fold_ok h6) (fun env x => fold_ok h6' x)) fun D σ H q => h7 _ _ _ (read D σ H q)
                | bi b as => cases b <;> cases h3
                | _ => cases h3
            | SetComp => cases h4
            | DictComp => cases h4
            | _ => exact absurd rfl hc
        | _ => cases h
  | _ => cases h
/-! a dip into a list of which no more is told -/
theorem jar_cell {env : Env} {i : Nat} {u : U} (g : get env i = some u) (h : isJar u = true) : ∃ rest, cellOf env i = some (.dict [] :: rest) := by
  unfold cellOf
  rw [g]
  cases u with
  | o xs => match xs, h with | .dict [] :: rest, _ => exact ⟨rest, rfl⟩
  | r xs => match xs, h with | .dict [] :: rest, _ => exact ⟨rest, rfl⟩
  | _ => cases h
theorem isSub0_pe (ok : Ok Γ CT X W cc) {i : Nat} {e : Expr} (h : isSub0 cc i e = true) : PE X e (tOp (rIxL X.K) (tVar i) (tC (.int 0))) ∧ attributeBase e "pop" X.env (eval e X.env) = eval e X.env ∧ ∀ es env', starEach (e :: es) env' = (false, eval e env') :: starEach es env' := by
  cases e with
  | Subscript a b p =>
    cases a with
    | Name x xp =>
      cases b with
      | Constant c k kp =>
        cases c with
        | int c =>
          obtain ⟨h1, h2⟩ := and_split (show (nameB cc i x && decide (c = 0)) = true from h)
          have e2 := of_decide_eq_true h2
          subst e2
          exact ⟨pe_ix ix_list (pe_name ok h1) pe_int (plain_ix fun _ _ _ _ z => by cases z), rfl, fun _ _ => rfl⟩
        | _ => cases h
      | _ => cases h
    | _ => cases h
  | _ => cases h
theorem isLen0_pe (ok : Ok Γ CT X W cc) {i : Nat} {e : Expr} (h : isLen0 cc i e = true) : PE X e (tCB (fun xs H Q => ∃ p ys, xs = [.ref p] ∧ (SqL X.K H p ys ∨ SqT X.K H p ys) ∧ Q (.int ys.length) H) (tCons (tOp (rIxL X.K) (tVar i) (tC (.int 0))) tNil)) := by
  cases e with
  | Call f es kws p =>
    cases f with
    | Name x xp =>
      match es, kws, h with
      | [y], [], h =>
        obtain ⟨h, h3⟩ := and_split (show (decide (x = "len") && gloB cc x && isSub0 cc i y) = true from h)
        obtain ⟨h1, h2⟩ := and_split h
        have e1 := of_decide_eq_true h1
        subst e1
        obtain ⟨gl, gd⟩ := ok.gl h2
        obtain ⟨k1, k2, k3⟩ := isSub0_pe ok h3
        exact pe_callB call_len_seq gl (ok.blt _ (by decide)) (by decide +kernel) (pa_cons k1 pa_nil (k3 _ _)) (by decide) gd (k3 _ _)
      | [], _, h => cases h
      | [_], _ :: _, h => cases h
      | _ :: _ :: _, _, h => cases h
    | _ => cases h
  | _ => cases h
theorem isPop0_pe (ok : Ok Γ CT X W cc) {i : Nat} {e : Expr} (h : isPop0 cc i e = true) : PE X e (tBM0 X.K "list" (rMth .pop) (tOp (rIxL X.K) (tVar i) (tC (.int 0)))) ∧ ∀ es env', starEach (e :: es) env' = (false, eval e env') :: starEach es env' := by
  cases e with
  | Call f es kws p =>
    cases f with
    | Attribute o nm ap =>
      match es, kws, h with
      | [], [], h =>
        obtain ⟨h, h3⟩ := and_split (show (isSub0 cc i o && decide (nm = "pop") && (ap.endLine == p.line)) = true from h)
        obtain ⟨h1, h2⟩ := and_split h
        have e1 := of_decide_eq_true h2
        subst e1
        obtain ⟨k1, k2, k3⟩ := isSub0_pe ok h1
        exact ⟨pe_bm0 PySem.F.plainAttrs_list PySem.F.slot_list_pop PySem.F.type_list_pop (mt_mth .pop) k1 k2 h3, fun _ _ => rfl⟩
      | _ :: _, _, h => cases h
      | [], _ :: _, h => cases h
    | _ => cases h
  | _ => cases h
theorem isIntPop_pe (ok : Ok Γ CT X W cc) {i : Nat} {e : Expr} (h : isIntPop cc i e = true) : PE X e (tCB (rBi .int1) (tCons (tBM0 X.K "list" (rMth .pop) (tOp (rIxL X.K) (tVar i) (tC (.int 0)))) tNil)) := by
  cases e with
  | Call f es kws p =>
    cases f with
    | Name x xp =>
      match es, kws, h with
      | [y], [], h =>
        obtain ⟨h, h3⟩ := and_split (show (decide (x = "int") && gloB cc x && isPop0 cc i y) = true from h)
        obtain ⟨h1, h2⟩ := and_split h
        have e1 := of_decide_eq_true h1
        subst e1
        obtain ⟨gl, gd⟩ := ok.gl h2
        obtain ⟨k1, k3⟩ := isPop0_pe ok h3
        exact pe_callTy (call_bi .int1 rfl ok.calm ok.un) gl (ok.blt _ (by decide)) (by decide +kernel) (pa_cons k1 pa_nil (k3 _ _)) (by decide) gd (k3 _ _)
      | [], _, h => cases h
      | [_], _ :: _, h => cases h
      | _ :: _ :: _, _, h => cases h
    | _ => cases h
  | _ => cases h
theorem isDip_pe (ok : Ok Γ CT X W cc) {i j : Nat} {e : Expr} (h : isDip cc i j e = true) : PE X e (tOp (rBin .mod) (tCB (rBi .int1) (tCons (tBM0 X.K "list" (rMth .pop) (tOp (rIxL X.K) (tVar i) (tC (.int 0)))) tNil)) (tVar j)) := by
  cases e with
  | BinOp l o r p =>
    cases r with
    | Name m mp =>
      obtain ⟨h, h3⟩ := and_split (show (decide (o = .Mod) && isIntPop cc i l && nameB cc j m) = true from h)
      obtain ⟨h1, h2⟩ := and_split h
      have e1 := of_decide_eq_true h1
      subst e1
      exact pe_op (op_bin .mod) (isIntPop_pe ok h2) (pe_name ok h3)
    | _ => cases h
  | _ => cases h
theorem isGt0_pt (ok : Ok Γ CT X W cc) {i : Nat} {e : Expr} (h : isGt0 cc i e = true) : PT X e (tTest (tOp (rCmp .gt) (tCB (fun xs H Q => ∃ p ys, xs = [.ref p] ∧ (SqL X.K H p ys ∨ SqT X.K H p ys) ∧ Q (.int ys.length) H) (tCons (tOp (rIxL X.K) (tVar i) (tC (.int 0))) tNil)) (tC (.int 0)))) := by
  cases e with
  | Compare l os rs cp =>
    match os, rs, h with
    | [o], [r], h =>
      obtain ⟨h, h3⟩ := and_split (show (decide (o = .Gt) && isZ r && isLen0 cc i l) = true from h)
      obtain ⟨h1, h2⟩ := and_split h
      have e1 := of_decide_eq_true h1
      subst e1
      cases r with
      | Constant c k kp =>
        cases c with
        | int c =>
          have e2 : c = 0 := of_decide_eq_true h2
          subst e2
          exact pt_cmpR (op_cmp .gt ok.un) (isLen0_pe ok h3) pe_int rfl
        | _ => cases h2
      | _ => cases h2
    | [], _, h => cases h
    | [_], [], h => cases h
    | [_], _ :: _ :: _, h => cases h
    | _ :: _ :: _, _, h => cases h
  | _ => cases h
theorem isRetDip_ps (ok : Ok Γ CT X W cc) {i j : Nat} {a : List Stmt} (h : isRetDip cc i j a = true) : PSs X a (tRet (tOp (rBin .mod) (tCB (rBi .int1) (tCons (tBM0 X.K "list" (rMth .pop) (tOp (rIxL X.K) (tVar i) (tC (.int 0)))) tNil)) (tVar j))) := by
  cases a with
  | nil => cases h
  | cons s0 a =>
    cases a with
    | cons _ _ => cases s0 <;> first | cases h | (rename_i v _; cases v <;> cases h)
    | nil =>
      cases s0 with
      | Return v p =>
        cases v with
        | none => cases h
        | some e => exact pss_one (ps_ret (isDip_pe ok h))
      | _ => cases h
theorem dip_ps (ok : Ok Γ CT X W cc) {i j : Nat} {st : Stmt} (h : chkS (n + 1) cc (.jdip i j) st = true) :
    PS X st (tIfS (tTest (tOp (rCmp .gt) (tCB (fun xs H Q => ∃ p ys, xs = [.ref p] ∧ (SqL X.K H p ys ∨ SqT X.K H p ys) ∧ Q (.int ys.length) H) (tCons (tOp (rIxL X.K) (tVar i) (tC (.int 0))) tNil)) (tC (.int 0))))
      (tRet (tOp (rBin .mod) (tCB (rBi .int1) (tCons (tBM0 X.K "list" (rMth .pop) (tOp (rIxL X.K) (tVar i) (tC (.int 0)))) tNil)) (tVar j))) tNext) := by
  cases st with
  | If t a b p =>
    obtain ⟨h, h3⟩ := and_split (show (isGt0 cc i t && isRetDip cc i j a && b.isEmpty) = true from h)
    obtain ⟨h1, h2⟩ := and_split h
    cases b with
    | nil => exact ps_if (isGt0_pt ok h1) (isRetDip_ps ok h2) pss_nil
    | cons _ _ => cases h3
  | _ => cases h
theorem intsD_self : ∀ ns : List Int, intsD (ns.map .int) = some ns
  | [] => rfl
  | n :: ns => by
    show (match intsD (ns.map .int) with | some is => some (n :: is) | none => none) = _
    rw [intsD_self ns]
theorem snd_dip (ok : Ok Γ CT X W cc) (Z : Zt) {i j : Nat} {st : Stmt} (h : chkS (n + 1) cc (.jdip i j) st = true) : PS X st (tS Γ CT X.K W Z (n + 1) (.jdip i j)) := by
  have pif := dip_ps (Γ := Γ) (CT := CT) (W := W) ok h
  refine ⟨fun pins s σ H D I ⟨F, env, k, S, ko, q⟩ => ?_⟩
  rw [wpS_succ] at q
  unfold wpS1 at q
  dsimp only at q
  obtain ⟨u, e0, q1⟩ := optP_get q
  obtain ⟨c0, q2⟩ := ckP_get q1
  obtain ⟨d, e1, q3⟩ := optP_get q2
  obtain ⟨mm, e2, q4⟩ := optP_get q3
  obtain ⟨c1, qr, qn⟩ := ckP_get q4
  obtain ⟨rest, hcell⟩ := jar_cell e0 c0
  obtain ⟨a, vs, ha, hv, rv, fa⟩ := S.cell hcell
  cases rv with
  | @cons v0 vs2 _ _ r1 r2 =>
  cases r1 with
  | @opq b hb =>
  have hHb : H b = some (JL b) := S.le _ _ hb
  have ed : d = .int mm := by cases d <;> first | (cases e2; rfl) | cases e2
  have hmm : σ[j]? = some (some (.int mm)) := by
    have hx : ∃ v, σ[j]? = some (some v) := by
      simp only [rdv] at e1
      cases g : get env j with
      | none => rw [g] at e1; cases e1
      | some w => obtain ⟨v, e, _⟩ := S.slot j w g; exact ⟨v, e⟩
    obtain ⟨v, hv2⟩ := hx
    have ro : RO F σ v (.var j) := hv2
    have rd := ro.rd S same_refl e1
    rw [ed] at rd
    rw [hv2, rd.int]
  obtain ⟨ns, hl, I1⟩ := reveal I hHb
  have hab : a ≠ b := fun z => by rw [z, hHb] at hv; cases hv
  have hv1 : upd H b (.lst (ns.map V.int)) a = some (.lst (.ref b :: vs2)) := by rw [upd_ne hab]; exact hv
  have hbb : upd H b (.lst (ns.map V.int)) b = some (.lst (ns.map V.int)) := upd_same
  let D1 : Ends := { nx := fun σ' H' => ∃ ns' : List Int, H' b = some (.lst (ns'.map V.int)) ∧ D.nx σ' (upd H' b (JL b)), rt := fun x H' => ∃ ns' : List Int, H' b = some (.lst (ns'.map V.int)) ∧ D.rt x (upd H' b (JL b)) }
  have vat0 : ∀ Q : VK, Q (.ref b) (upd H b (.lst (ns.map V.int))) → tOp (rIxL X.K) (tVar i) (tC (.int 0)) σ (upd H b (.lst (ns.map V.int))) Q := fun Q hq => ⟨.ref a, ha, a, .ref b :: vs2, 0, .ref b, rfl, rfl, SqL.of hv1, atD_atI rfl, hq⟩
  have fN : Same (fun _ => none : Hp) (upd H b (.lst (ns.map V.int))) := fun _ _ z => by cases z
  refine wpAny_mono (pif.run pins s σ _ D1 I1 ?_) (fun f s' hf => ?_) fun _ _ z => z
  · refine vat0 _ ?_
    refine ⟨b, ns.map V.int, rfl, .inl (SqL.of hbb), ?_⟩
    refine ⟨fun _ => none, .int ((ns.map V.int).length : Int), .int 0, ltB 0 ((ns.map V.int).length : Int), fN, .v (.int _), .v (.int _), rfl, True.intro, ?_⟩
    refine ⟨_, rfl, ?_⟩
    by_cases hne : ns = []
    · subst hne
      show D1.nx σ _
      refine ⟨[], hbb, ?_⟩
      rw [upd_self hHb]
      exact ko.nx _ qn σ F H same_refl S
    · have hpos := List.length_pos_iff.mpr hne
      have hlt : ltB 0 ((ns.map V.int).length : Int) = true := by
        rw [List.length_map]
        exact decide_eq_true (by omega)
      rw [hlt]
      dsimp only
      rw [if_pos rfl]
      obtain ⟨ms, y, rfl⟩ := List.eq_nil_or_concat ns |>.resolve_left hne
      rw [List.concat_eq_append] at *
      refine vat0 _ ⟨.inl ⟨rfl, _, SqL.of hbb⟩, ?_⟩
      refine ⟨fun _ => none, b, _, (ms ++ [y]).map .int, [], (.int y, ms.map .int), fN, rfl, hbb, rfl, Reps.of_ints _, .nil, by rw [List.map_append]; simp [mthD], True.intro, fun v vs' rv rvs => ?_⟩
      have hv' : v = .int y := by cases rv; rfl
      have hvs := rvs.ints (intsD_self ms)
      subst hv'
      subst hvs
      refine ⟨fun _ => none, [.int y], .v (.int y), fun _ _ z => (by cases z), .cons (.v (.int y)) .nil, rfl, True.intro, fun v F3 H3 g3 rn3 => ?_⟩
      have hv3 : v = .int y := by
        have rn3 : Rep F3 v (.int y) := rn3
        cases rn3; rfl
      subst hv3
      refine ⟨.int mm, hmm, ?_⟩
      refine ⟨fun _ => none, .int y, .int mm, .v (.int (y % mm)), fun _ _ z => (by cases z), .v (.int y), .v (.int mm), rfl, c1, fun v F4 H4 g4 rn4 => ?_⟩
      have hv4 : v = .int (y % mm) := by
        have rn4 : Rep F4 v (.int (y % mm)) := rn4
        cases rn4; rfl
      subst hv4
      have h4b : H4 b = some (.lst (ms.map V.int)) := g4.h _ _ (g3.h _ _ upd_same)
      refine ⟨ms, h4b, ?_⟩
      have hh : Same H (upd H4 b (JL b)) := fun c x e => by
        by_cases hc : c = b
        · subst hc; rw [upd_same]; rw [hHb] at e; exact e
        · rw [upd_ne hc]
          exact g4.h _ _ (g3.h _ _ (by rw [upd_ne hc, upd_ne hc]; exact e))
      have S4 := S.grow (F' := F) (H' := upd H4 b (JL b)) ⟨same_refl, fun c x e => hh _ _ (S.le _ _ e), hh, fun _ z => .inl z⟩
      exact ko.rt (.v (.int (y % mm))) env (qr _ (Int.emod_nonneg _ (by omega)) (Int.emod_lt_of_pos _ c1)) _ σ F _ same_refl S4 (.int _)
  · cases f with
    | next => obtain ⟨σ', H', I', ns', hb', q⟩ := hf; exact ⟨σ', _, hide I' hb', q⟩
    | ret u => obtain ⟨v, σ', H', I', rv, ns', hb', q⟩ := hf; exact ⟨v, σ', _, hide I' hb', rv, q⟩
    | brk => obtain ⟨_, _, _, q⟩ := hf; exact q.elim
    | cont => obtain ⟨_, _, _, q⟩ := hf; exact q.elim
theorem sw_folded {ts vs : List Expr} {kt : Nat} {pt : Pos} {k2 : Nat} {p2 : Pos} {env : PySem.Env} (h : tupV ts (.Tuple vs k2 p2) = true) : swappedStores [.Tuple ts kt pt] (.Tuple vs k2 p2) env = pure none := by
  have h3 : (!(ts.length == 2 || ts.length == 3) || vs.all (foldedForSure 8)) = true := h
  unfold swappedStores
  dsimp only
  split
  · rfl
  · rename_i hz
    have hf : vs.all (foldedForSure 8) = true := by
      cases q : vs.all (foldedForSure 8) with
      | true => rfl
      | false =>
        exfalso
        rw [q, Bool.or_false] at h3
        apply hz
        rw [h3]
        rfl
    rw [if_pos hf]
    split
    · rfl
    · split <;> rfl
theorem snd_asgT (ok : Ok Γ CT X W cc) (Z : Zt) {ts : List T} {e : M} {st : Stmt} (h : chkS (n + 1) cc (.asg (.tp ts) e) st = true) : PS X st (tS Γ CT X.K W Z (n + 1) (.asg (.tp ts) e)) := by
  have M := wpE_mono Γ n
  cases st with
  | Assign tgs v p =>
    cases tgs with
    | nil => cases h
    | cons a l => cases l with
      | cons b l => cases a <;> cases h
      | nil => cases a with
        | Tuple tgs k tp =>
          obtain ⟨h, h3⟩ := and_split (show (chkG cc n (.tp ts) (.Tuple tgs k tp) && chkE n cc e v && tupV tgs v) = true from h)
          obtain ⟨h1, h2⟩ := and_split h
          refine PS.imp (ps_asg (soundE Γ CT n cc X W ok Z e v h2) (snd_G ok Z h1) ?_ ?_ ?_) ?_
          · cases v <;> rfl
          · cases v with
            | Tuple vs k2 p2 => exact sw_folded h3
            | _ => rfl
          · rw [asg_each h1]; rfl
          · rintro D σ H ⟨F, env, k, S, ko, q⟩
            rw [wpS_succ] at q
            unfold wpS1 at q
            dsimp only at q
            refine ⟨F, env, S, M _ _ _ _ _ _ q (ko.px σ) fun u env1 q1 v F1 H1 s1 S1 r1 => ?_⟩
            obtain ⟨d, e1, q2⟩ := optP_get q1
            obtain ⟨F2, s2, S2, r2⟩ := RU.fz S1 r1 e1
            exact ⟨F2, env1, d, S2, r2, bindT_mono q2 fun e q σ' S' _ => ko.nx _ q _ F2 H1 (s1.trans s2) S'⟩
        | _ => cases h
  | _ => cases h
theorem notSlice {cc : CC} {m : M} {e : Expr} (h : chkE n cc m e = true) : ∀ l u s p, e ≠ .Slice l u s p := by
  rintro l u s p rfl
  cases n with
  | zero => cases h
  | succ n => cases m with
    | bi b as => cases b <;> cases h
    | _ => cases h
/-- o[i] = d at an own list -/
theorem set_own {K : PySem.W.Frag} {F H F0 : Hp} {σ : L2.St} {env : Env} {i : Nat} {xs ys : List D} {y d : D} {oi : Op} {vo vi v : V} {Qf : Hp → Prop} (S : SR K Z F H σ env) (s : Same F0 F) (ho : σ[i]? = some (some vo)) (ri : RO F0 σ vi oi) (rv : Rep F v d) (e1 : rdv env oi = some y) (e2 : cellOf env i = some xs) (e3 : setAt xs y d = some ys)
    (f : ∀ H', SR K Z F H' σ (putR env i (.r ys)) → Qf H') : rSetL vo vi v H Qf := by
  obtain ⟨a, vs, ha, hv, r, fa⟩ := S.cell e2
  rw [ho] at ha
  cases ha
  obtain ⟨k, j, hk, hj, r'⟩ := set_D (a := a) r rv (ri.rd S s e1) e3
  exact ⟨a, vs, k, j, rfl, hk, hv, hj, f _ (S.change e2 ho r')⟩
theorem snd_seti (ok : Ok Γ CT X W cc) (Z : Zt) {i : Nat} {ix e : M} {st : Stmt} (h : chkS (n + 1) cc (.seti i ix e) st = true) : PS X st (tS Γ CT X.K W Z (n + 1) (.seti i ix e)) := by
  have M := wpE_mono Γ n
  cases st with
  | Assign tgs v p =>
    cases tgs with
    | nil => cases h
    | cons a l => cases l with
      | cons b l => cases a with
        | Subscript o _ _ => cases o <;> cases h
        | _ => cases h
      | nil => cases a with
        | Subscript o ie sp => cases o with
          | Name x xp =>
            obtain ⟨h, h3⟩ := and_split (show (nameB cc i x && chkE n cc ix ie && chkE n cc e v) = true from h)
            obtain ⟨h1, h2⟩ := and_split h
            have ns := notSlice h2
            refine PS.imp (ps_asg (soundE Γ CT n cc X W ok Z e v h3) (pg_sub (pe_name ok h1) (snd_R (soundE Γ CT n) ok Z h2) set_list ?_) ?_ rfl rfl) ?_
            · intro v
              cases ie <;> first | rfl | exact absurd rfl (ns _ _ _ _)
            · cases v <;> rfl
            · rintro D σ H ⟨F, env, k, S, ko, q⟩
              rw [wpS_succ] at q
              unfold wpS1 at q
              dsimp only at q
              refine ⟨F, env, S, M _ _ _ _ _ _ q (ko.px σ) fun u env1 q1 v F1 H1 s1 S1 r1 => ?_⟩
              obtain ⟨d, e1, q2⟩ := optP_get q1
              obtain ⟨F2, s2, S2, r2⟩ := RU.fz S1 r1 e1
              obtain ⟨w, ew, q3⟩ := optP_get q2
              obtain ⟨vo, eo, _⟩ := S2.slot i w ew
              refine ⟨vo, eo, F2, env1, S2, wpR_mono M q3 ((ko.mono (s1.trans s2)).px σ) fun oi env2 q4 vi F3 H3 s3 S3 r3 => ?_⟩
              obtain ⟨y, ey, q5⟩ := optP_get q4
              obtain ⟨xs, ex, q6⟩ := optP_get q5
              obtain ⟨ys, es, q7⟩ := optP_get q6
              exact set_own S3 same_refl eo r3 (r2.mono s3) ey ex es fun H' S' => ko.nx _ q7 σ F3 H' ((s1.trans s2).trans s3) S'
          | _ => cases h
        | _ => cases h
  | _ => cases h
/-! a op= b -/
def rGetL (K : PySem.W.Frag) : V → V → Hp → VK → Prop := fun o i H Q => ∃ p xs k v, o = .ref p ∧ i = .int k ∧ SqL K H p xs ∧ atI xs k = some v ∧ Q v H
theorem get_listG : PGet X (rGetL X.K) := by
  intro pins s σ H o i ov iv Q I ro ri h
  obtain ⟨p, xs, k, w, rfl, rfl, sq, at_, fin⟩ := h
  cases ro
  obtain ⟨t, rfl⟩ := ri
  obtain ⟨its, rv, isl, _⟩ := I.list sq
  obtain ⟨j, ix, gx, jl, lo, hi⟩ := atI_get at_
  obtain ⟨u, gu, ru⟩ := rv.get gx
  have len := rv.length
  have big : xs.length < 2 ^ 63 := by have := line63; omega
  by_cases pos : 0 ≤ k
  · have kj : k.toNat = j := Option.some.inj ((seqIndex_of pos hi).symm.trans ix)
    exact wpAny_getItem_list isl.isList pos (by omega) (by rw [kj]; simpa using gu) ⟨w, H, I, ru, fin⟩
  · have kj : (k + (its.toArray.size : Int)).toNat = j := by
      have z := (seqIndex_neg (by omega) lo).symm.trans ix
      rw [List.size_toArray, ← len]
      exact Option.some.inj z
    exact wpAny_getItem_list_neg isl.isList (by omega) (by rw [List.size_toArray, ← len]; exact lo) (by omega) (by rw [kj]; simpa using gu) ⟨w, H, I, ru, fin⟩
def ipF (op : BOp) (i j : Int) : Int := match op with
  | .sub => i - j
  | _ => i + j
theorem ip_op {op : BOp} {o : Operator} (h : augB op o = true) : PIp X o (ipI (ipF op)) ∧ ∀ i j r, binD op (.int i) (.int j) = some r → r = .v (.int (ipF op i j)) := by
  cases op <;> cases o <;> first
    | (cases h; done)
    | exact ⟨ip_add, fun i j r e => by cases e; rfl⟩
    | exact ⟨ip_sub, fun i j r e => by cases e; rfl⟩
theorem intD_some {d : D} {i : Int} (h : intD d = some i) : d = .int i := by
  cases d <;> first | (cases h; rfl) | cases h
theorem snd_aug (ok : Ok Γ CT X W cc) (Z : Zt) {i : Nat} {op : BOp} {e : M} {st : Stmt} (h : chkS (n + 1) cc (.aug i op e) st = true) : PS X st (tS Γ CT X.K W Z (n + 1) (.aug i op e)) := by
  have M := wpE_mono Γ n
  cases st with
  | AugAssign tg o v p =>
    cases tg with
    | Name x xp =>
      obtain ⟨h, h4⟩ := and_split (show (augB op o && decide (cc.N[i]? = some x) && cc.st x && chkE n cc e v) = true from h)
      obtain ⟨h, h3⟩ := and_split h
      obtain ⟨h1, h2⟩ := and_split h
      obtain ⟨hp, hr⟩ := ip_op (X := X) h1
      obtain ⟨l1, l2⟩ := ok.st x h3
      refine PS.imp (ps_aug ok.nd (at_len ok h2) l1 (snd_R (soundE Γ CT n) ok Z h4) hp l2) ?_
      rintro D σ H ⟨F, env, k, S, ko, q⟩
      rw [wpS_succ] at q
      unfold wpS1 at q
      dsimp only at q
      obtain ⟨w, ew, q1⟩ := optP_get q
      obtain ⟨vo, eo, _⟩ := S.slot i w ew
      refine ⟨vo, eo, F, env, S, wpR_mono M q1 (ko.px σ) fun oe env1 q2 y F1 H1 s1 S1 r1 => ?_⟩
      obtain ⟨dx, ex, q3⟩ := optP_get q2
      obtain ⟨dz, ez, q4⟩ := optP_get q3
      obtain ⟨a, ea, q5⟩ := optP_get q4
      obtain ⟨b, eb, q6⟩ := optP_get q5
      obtain ⟨r, er, q7⟩ := optP_get q6
      obtain ⟨c, q8⟩ := ckP_get q7
      have e1 := intD_some ea
      have e2 := intD_some eb
      subst e1 e2
      have hx : RO F1 σ vo (.var i) := eo
      have hv := (hx.rd S1 same_refl ex).int
      have hy := (r1.rd S1 same_refl ez).int
      have e3 := hr a b r er
      subst e3
      exact ⟨a, b, hv, hy, ko.nx _ q8 _ F1 H1 s1 (S1.store' c trivial (.int _))⟩
    | _ => cases h
  | _ => cases h
theorem snd_augi (ok : Ok Γ CT X W cc) (Z : Zt) {i : Nat} {ix : M} {op : BOp} {e : M} {st : Stmt} (h : chkS (n + 1) cc (.augi i ix op e) st = true) : PS X st (tS Γ CT X.K W Z (n + 1) (.augi i ix op e)) := by
  have M := wpE_mono Γ n
  cases st with
  | AugAssign tg o v p =>
    cases tg with
    | Subscript oo ie sp => cases oo with
      | Name x xp =>
        obtain ⟨h, h4⟩ := and_split (show (augB op o && nameB cc i x && chkE n cc ix ie && chkE n cc e v) = true from h)
        obtain ⟨h, h3⟩ := and_split h
        obtain ⟨h1, h2⟩ := and_split h
        obtain ⟨hp, hr⟩ := ip_op (X := X) h1
        have ns := notSlice h3
        refine PS.imp (ps_augS (pe_name ok h2) (snd_R (soundE Γ CT n) ok Z h3) get_listG (snd_R (soundE Γ CT n) ok Z h4) hp set_list ?_) ?_
        · intro ov iv new
          cases ie <;> first | rfl | exact absurd rfl (ns _ _ _ _)
        · rintro D σ H ⟨F, env, k, S, ko, q⟩
          rw [wpS_succ] at q
          unfold wpS1 at q
          dsimp only at q
          obtain ⟨w, ew, q1⟩ := optP_get q
          obtain ⟨vo, eo, _⟩ := S.slot i w ew
          refine ⟨vo, eo, F, env, S, wpR_mono M q1 (ko.px σ) fun oi env1 q2 vi F1 H1 s1 S1 r1 => ?_⟩
          obtain ⟨y, ey, q3⟩ := optP_get q2
          obtain ⟨xs, ex, q4⟩ := optP_get q3
          obtain ⟨dx, ed, q5⟩ := optP_get q4
          obtain ⟨a, vs, ha, hv, rv, fa⟩ := S1.cell ex
          rw [eo] at ha
          cases ha
          have ry := r1.rd S1 same_refl ey
          cases y with
          | int kk =>
            obtain ⟨wv, g1, g2⟩ := rv.atI ed
            refine ⟨a, vs, kk, wv, rfl, ry.int, SqL.of hv, g1, F1, env1, S1, wpR_mono M q5 ((ko.mono s1).px σ) fun oe env2 q6 ve F2 H2 s2 S2 r2 => ?_⟩
            obtain ⟨dz, ez, q7⟩ := optP_get q6
            obtain ⟨y2, ey2, q8⟩ := optP_get q7
            obtain ⟨ia, ea, q9⟩ := optP_get q8
            obtain ⟨ib, eb, q10⟩ := optP_get q9
            obtain ⟨r, er, q11⟩ := optP_get q10
            obtain ⟨d, efz, q12⟩ := optP_get q11
            obtain ⟨xs2, ex2, q13⟩ := optP_get q12
            obtain ⟨ys, es, q14⟩ := optP_get q13
            have e1 := intD_some ea
            have e2 := intD_some eb
            subst e1 e2
            have e3 := hr _ _ _ er
            subst e3
            cases efz
            have hw : wv = .int ia := by cases g2; rfl
            subst hw
            refine ⟨ia, ib, rfl, (r2.rd S2 same_refl ez).int, ?_⟩
            exact set_own S2 s2 eo r1 (.int _) ey2 ex2 es fun H' S' => ko.nx _ q14 σ F2 H' (s1.trans s2) S'
          | _ => cases ed
      | _ => cases h
    | _ => cases h
  | _ => cases h
theorem sw_two {x y : Str} {px py : Pos} {a b : Expr} {kt : Nat} {pt : Pos} {k2 : Nat} {p2 : Pos} {env : PySem.Env} (hk : env.scope.kind = .function) (h1 : env.scope.names.lookup x = some .local) (h2 : env.scope.names.lookup y = some .local) (hl : (py.line == px.line) = true)
    (hn : (x == y) = false) (sa : starB a = false) (sb : starB b = false) (hf : [a, b].all (foldedForSure 8) = false) (hc : [a, b].all (constantsAlone 8) = false) : swappedStores [.Tuple [.Name x px, .Name y py] kt pt] (.Tuple [a, b] k2 p2) env = pure (some [x, y]) := by
  have kx : env.kindOf x = some .local := h1
  have ky : env.kindOf y = some .local := h2
  have hb : env.blockKind = .function := by unfold Env.blockKind; rw [hk]; rfl
  have hxy : py.line = px.line := eq_of_beq hl
  have hyx : (y == x) = false := by
    cases q : y == x with
    | false => rfl
    | true => rw [eq_of_beq q] at hn; simp at hn
  have fm : ∀ (f : Expr → Option Str), f (.Name x px) = some x → f (.Name y py) = some y → [Expr.Name x px, .Name y py].filterMap f = [x, y] := fun f e1 e2 => by simp [e1, e2]
  have er : [x, y].eraseDups = [x, y] := by simp [List.eraseDups, List.eraseDupsBy, List.eraseDupsBy.loop, hyx]
  unfold swappedStores
  dsimp only
  rw [fm _ (by simp [kx, Expr.pos]) (by simp [ky, Expr.pos, hxy])]
  rw [er, hf, hc, hb]
  split
  · rename_i hz; simp at hz
  · split
    · rename_i hz
      exfalso
      cases a <;> cases b <;> first | (cases sa; done) | (cases sb; done) | (simp at hz; done)
    · split
      · rename_i hz; simp at hz
      · rfl
theorem snd_par (ok : Ok Γ CT X W cc) (Z : Zt) {i j : Nat} {a b : M} {st : Stmt} (h : chkS (n + 1) cc (.par i j a b) st = true) : PS X st (tS Γ CT X.K W Z (n + 1) (.par i j a b)) := by
  have M := wpE_mono Γ n
  cases st with
  | Assign tgs v p =>
    match tgs, v, h with
    | [.Tuple [.Name x px, .Name y py] kt pt], .Tuple [va, vb] k2 p2, h =>
      obtain ⟨h, h5⟩ := and_split (show (decide (cc.N[i]? = some x) && decide (cc.N[j]? = some y) && chkE n cc a va && chkE n cc b vb && parV cc x y px py va vb) = true from h)
      obtain ⟨h, h4⟩ := and_split h
      obtain ⟨h, h3⟩ := and_split h
      obtain ⟨h1, h2⟩ := and_split h
      obtain ⟨h5, k9⟩ := and_split h5
      obtain ⟨h5, k8⟩ := and_split h5
      obtain ⟨h5, k7⟩ := and_split h5
      obtain ⟨h5, k6⟩ := and_split h5
      obtain ⟨h5, k5⟩ := and_split h5
      obtain ⟨h5, k4⟩ := and_split h5
      obtain ⟨h5, k3⟩ := and_split h5
      obtain ⟨k1, k2'⟩ := and_split h5
      have hi := at_len ok h1
      have hj := at_len ok h2
      have hij : i ≠ j := fun z => by
        subst z
        rw [hi] at hj
        have e : x = y := by injection hj
        rw [e] at k5
        simp at k5
      have lx : X.env.scope.names.lookup x = some .local := by rw [ok.sc]; exact of_decide_eq_true k2'
      have ly : X.env.scope.names.lookup y = some .local := by rw [ok.sc]; exact of_decide_eq_true k3
      have hk : X.env.scope.kind = .function := by rw [ok.sc]; exact fun_of k1
      have hc : chkL (chkE n cc) [a, b] [va, vb] = true := by
        show (chkE n cc a va && (chkE n cc b vb && true)) = true
        rw [h3, h4]; rfl
      refine PS.imp (ps_par ok.calm ok.nd hi hj hij lx ly (snd_Vs (soundE Γ CT n) ok Z hc) (sw_two hk lx ly k4 (not_true k5) (not_true k6) (not_true k7) (not_true k8) (not_true k9)) rfl) ?_
      rintro D σ H ⟨F, env, k, S, ko, q⟩
      rw [wpS_succ] at q
      unfold wpS1 at q
      dsimp only at q
      refine ⟨F, env, S, wpVs_mono M q (ko.px σ) fun ds env1 q1 vs F1 H1 s1 S1 r1 => ?_⟩
      match ds, r1, q1 with
      | [dx, dy], .cons rx (.cons ry .nil), q1 =>
        obtain ⟨⟨c1, c2⟩, q2⟩ := ckP_get q1
        have c3 : asgOk (put env1 i (some (.v dx))) j := by
          unfold asgOk
          rw [get_put_ne hij]
          exact c2
        exact ⟨_, _, rfl, ko.nx _ q2 _ F1 H1 s1 ((S1.store' (u := .v dx) c1 trivial rx).store' (u := .v dy) c3 trivial ry)⟩
      | [], _, q1 => exact q1.elim
      | [_], _, q1 => exact q1.elim
      | _ :: _ :: _ :: _, _, q1 => exact q1.elim
  | _ => cases h
theorem snd_while (IH : SoundS Γ CT n) (ok : Ok Γ CT X W cc) (Z : Zt) {c : M} {b : List S} {st : Stmt} (h : chkS (n + 1) cc (.whl c b) st = true) : PS X st (tS Γ CT X.K W Z (n + 1) (.whl c b)) := by
  have M := wpE_mono Γ n
  cases st with
  | While t x orelse p =>
    cases orelse with
    | cons _ _ => cases h
    | nil =>
      obtain ⟨h1, h2⟩ := and_split (show (chkT (chkE n cc) n c t && chkSs (chkS n cc) b x) = true from h)
      refine PS.imp (ps_while ok.po (snd_T (fun k _ => soundE Γ CT k) ok Z h1) (snd_Ss IH ok Z h2)) ?_
      rintro D σ H ⟨F, env, k, S, ko, q⟩
      rw [wpS_succ] at q
      unfold wpS1 at q
      dsimp only at q
      unfold whileP at q
      obtain ⟨N, q⟩ := q
      let step : Env → (Env → Prop) → Prop := fun e nx => wpT (wpE Γ n) n c e k.ex fun t e1 => brP t (wpSs (wpS Γ n) b e1 { k with nx := nx, ct := nx, bk := k.nx }) (k.nx e1)
      let Iv : Nat → L2.St → Hp → Prop := fun m σ H => ∃ F1 e, Same F F1 ∧ SR X.K Z F1 H σ e ∧ whileN step m e
      refine ⟨Iv, ⟨N, F, env, same_refl, S, q⟩, ?_⟩
      rintro m σ1 H1 ⟨F1, e1, s1, S1, q1⟩
      cases m with
      | zero => exact q1.elim
      | succ m =>
        have q2 : wpT (wpE Γ n) n c e1 k.ex fun t e2 => brP t (wpSs (wpS Γ n) b e2 { k with nx := whileN step m, ct := whileN step m, bk := k.nx }) (k.nx e2) := q1
        refine ⟨F1, e1, S1, wpT_mono M q2 ((ko.mono s1).px σ1) ?_⟩
        intro t e2 q3 F2 H2 s2 S2
        obtain ⟨qt, qf⟩ := brP_get q3
        cases t with
        | false => rw [if_neg Bool.false_ne_true]; exact ko.nx _ (qf rfl) _ F2 H2 (s1.trans s2) S2
        | true =>
          rw [if_pos rfl]
          refine ⟨Iv m, fun σ' H' z => ⟨m, Nat.lt_succ_self m, z⟩, F2, e2, _, S2, ?_, qt rfl⟩
          have s12 := s1.trans s2
          exact ⟨fun e z σ' F' H' s' S' => ⟨F', e, s12.trans s', S', z⟩, fun e z σ' F' H' s' S' => ko.nx e z σ' F' H' (s12.trans s') S', fun e z σ' F' H' s' S' => ⟨F', e, s12.trans s', S', z⟩, (ko.mono s12).rt, (ko.mono s12).ex⟩
  | _ => cases h
theorem snd_for (IH : SoundS Γ CT n) (ok : Ok Γ CT X W cc) (Z : Zt) {t : T} {it : M} {b : List S} {st : Stmt} (h : chkS (n + 1) cc (.for_ t it b) st = true) : PS X st (tS Γ CT X.K W Z (n + 1) (.for_ t it b)) := by
  have M := wpE_mono Γ n
  cases st with
  | For tg iter x orelse p =>
    cases orelse with
    | cons _ _ => cases h
    | nil =>
      obtain ⟨h, h3⟩ := and_split (show (chkI cc (chkE n cc) tg it iter && chkG cc n t tg && chkSs (chkS n cc) b x) = true from h)
      obtain ⟨h1, h2⟩ := and_split h
      obtain ⟨pi, ns⟩ := snd_I (tg := tg) (soundE Γ CT n) ok Z h1
      refine PS.imp (ps_for ok.po ok.calm pi (snd_G ok Z h2) (snd_Ss IH ok Z h3) (fold_ok ns)) ?_
      rintro D σ H ⟨F, env, k, S, ko, q⟩
      rw [wpS_succ] at q
      unfold wpS1 at q
      dsimp only at q
      refine ⟨F, env, S, wpI_mono M q (ko.px σ) fun ds env1 q1 J F1 H1 s1 S1 wk => ?_⟩
      unfold forP at q1
      let step : PyData → Env → (Env → Prop) → Prop := fun x e nx => bindT n t x e fun e1 => wpSs (wpS Γ n) b e1 { k with nx := nx, ct := nx, bk := k.nx }
      let Iv : Nat → Nat → L2.St → Hp → Prop := fun i m σ H => m = ds.length - i ∧ i ≤ ds.length ∧ ∃ F2 e, Same F1 F2 ∧ SR X.K Z F2 H σ e ∧ forL step (ds.drop i) e k.nx
      refine ⟨Iv, ⟨_, rfl, Nat.zero_le _, F1, env1, same_refl, S1, q1⟩, ?_⟩
      rintro i m σ2 H2 ⟨rfl, hi, F2, e2, s2, S2, q3⟩
      by_cases hlt : i < ds.length
      · refine .inr ⟨((wk F2 H2 s2 S2.le).1 i hlt).1, Iv (i + 1) (ds.length - (i + 1)), fun σ' H' z => ⟨_, by omega, z⟩, fun x H3 y => ?_⟩
        obtain ⟨F3, d, g3, hd, rd⟩ := ((wk F2 H2 s2 S2.le).1 i hlt).2 x H3 y
        have hd' : ds.drop i = d :: ds.drop (i + 1) := by
          obtain ⟨h1, h2⟩ := List.getElem?_eq_some_iff.mp hd
          rw [List.drop_eq_getElem_cons h1, h2]
        rw [hd'] at q3
        have q4 : step d e2 fun e' => forL step (ds.drop (i + 1)) e' k.nx := q3
        refine ⟨F3, e2, d, S2.grow g3, rd, bindT_mono q4 fun e4 q5 σ4 S4 _ => ⟨F3, e4, _, S4, ?_, q5⟩⟩
        have s13 := s2.trans g3.f
        have s03 := s1.trans s13
        exact ⟨fun e z σ' F' H' s' S' => ⟨rfl, hlt, F', e, s13.trans s', S', z⟩, fun e z σ' F' H' s' S' => ko.nx e z σ' F' H' (s03.trans s') S', fun e z σ' F' H' s' S' => ⟨rfl, hlt, F', e, s13.trans s', S', z⟩, (ko.mono s03).rt, (ko.mono s03).ex⟩
      · refine .inl ⟨(wk F2 H2 s2 S2.le).2 i (by omega), ?_⟩
        rw [List.drop_eq_nil_of_le (by omega)] at q3
        exact ko.nx _ q3 _ F2 H2 (s1.trans s2) S2
  | _ => cases h
/-- a slot is handed out -/
theorem ret_slot {K : PySem.W.Frag} {F H : Hp} {σ : L2.St} {env : Env} {i : Nat} {p : U × Env} (S : SR K Z F H σ env) (hX : Z.X i = none) (e : retV env i = some p) : ∃ v, σ[i]? = some (some v) ∧ SR K Z F H σ p.2 ∧ RU Z F H σ p.2 v p.1 := by
  unfold retV at e
  cases q : get env i with
  | none => rw [q] at e; cases e
  | some u =>
    rw [q] at e
    obtain ⟨v, e1, r⟩ := S.slot i u q
    cases u with
    | v d => cases e; exact ⟨v, e1, S, r⟩
    | o xs =>
      cases e
      obtain ⟨a, vs, rfl, h1, h2, h3, h4, h5⟩ := r
      refine ⟨_, e1, S.forget' hX, a, vs, rfl, h1, h2, h3, h4, h5, fun j oj z => ?_⟩
      rcases oj.put with ⟨_, ⟨_, z⟩ | ⟨_, z⟩⟩ | ⟨nj, oj⟩
      · cases z
      · cases z
      · exact S.dis i j a nj (.inl ⟨xs, q⟩) oj e1 z
    | r xs => cases e
    | s ns => cases e
    | x c fs => cases e
theorem snd_ret (ok : Ok Γ CT X W cc) (Z : Zt) {e : M} {st : Stmt} (h : chkS (n + 1) cc (.ret e) st = true) : PS X st (tS Γ CT X.K W Z (n + 1) (.ret e)) := by
  have M := wpE_mono Γ n
  cases st with
  | Return ov p =>
    cases ov with
    | none => cases h
    | some v =>
      have hE : chkE n cc e v = true := h
      by_cases hv : ∃ i, e = .var i
      · obtain ⟨i, rfl⟩ := hv
        cases n with
        | zero => cases hE
        | succ n =>
          cases v with
          | Name x xp =>
            refine PS.imp (ps_ret (pe_name ok (i := i) hE)) ?_
            rintro D σ H ⟨F, env, k, S, ko, q⟩
            rw [wpS_succ] at q
            unfold wpS1 at q
            dsimp only at q
            obtain ⟨⟨u, env1⟩, e1, q1⟩ := optP_get q
            have hX : Z.X i = none := by
              cases z : Z.X i with
              | none => rfl
              | some a =>
                obtain ⟨⟨xs, g⟩, _⟩ := S.ref i a z
                unfold retV at e1
                rw [g] at e1
                cases e1
            obtain ⟨v, ev, S1, r1⟩ := ret_slot S hX e1
            exact ⟨v, ev, ko.rt u env1 q1 v σ F H same_refl S1 r1⟩
          | _ => cases hE
      · refine PS.imp (ps_ret (soundE Γ CT n cc X W ok Z e v hE)) ?_
        rintro D σ H ⟨F, env, k, S, ko, q⟩
        have q' : wpE Γ n e env k.ex fun u env1 => ckP (storable u) (k.rt u env1) := by
          cases e <;> first | exact q | exact absurd ⟨_, rfl⟩ hv
        refine ⟨F, env, S, M _ _ _ _ _ _ q' (ko.px σ) fun u env1 q1 v F1 H1 s1 S1 r1 => ?_⟩
        obtain ⟨_, q2⟩ := ckP_get q1
        exact ko.rt u env1 q2 v σ F1 H1 s1 S1 r1
  | _ => cases h
theorem snd_ite (IH : SoundS Γ CT n) (ok : Ok Γ CT X W cc) (Z : Zt) {c : M} {a b : List S} {st : Stmt} (h : chkS (n + 1) cc (.ite c a b) st = true) : PS X st (tS Γ CT X.K W Z (n + 1) (.ite c a b)) := by
  have M := wpE_mono Γ n
  cases st with
  | If t x y p =>
    obtain ⟨h, h3⟩ := and_split (show (chkT (chkE n cc) n c t && chkSs (chkS n cc) a x && chkSs (chkS n cc) b y) = true from h)
    obtain ⟨h1, h2⟩ := and_split h
    refine PS.imp (ps_if (snd_T (fun k _ => soundE Γ CT k) ok Z h1) (snd_Ss IH ok Z h2) (snd_Ss IH ok Z h3)) ?_
    rintro D σ H ⟨F, env, k, S, ko, q⟩
    rw [wpS_succ] at q
    unfold wpS1 at q
    dsimp only at q
    refine ⟨F, env, S, wpT_mono M q (ko.px σ) ?_⟩
    intro t e1 q1 F1 H1 s1 S1
    obtain ⟨qt, qf⟩ := brP_get q1
    cases t with
    | true => rw [if_pos rfl]; exact ⟨F1, e1, k, S1, ko.mono s1, qt rfl⟩
    | false => rw [if_neg Bool.false_ne_true]; exact ⟨F1, e1, k, S1, ko.mono s1, qf rfl⟩
  | _ => cases h
theorem snd_exp (ok : Ok Γ CT X W cc) (Z : Zt) {e : M} {st : Stmt} (h : chkS (n + 1) cc (.exp e) st = true) : PS X st (tS Γ CT X.K W Z (n + 1) (.exp e)) := by
  have M := wpE_mono Γ n
  cases st with
  | Expr v p =>
    obtain ⟨h1, h2⟩ := and_split (show (chkE n cc e v && !isComp v) = true from h)
    refine PS.imp (ps_expr (soundE Γ CT n cc X W ok Z e v h1) ?_) ?_
    · cases v <;> first | rfl | cases h2
    · rintro D σ H ⟨F, env, k, S, ko, q⟩
      rw [wpS_succ] at q
      unfold wpS1 at q
      dsimp only at q
      exact ⟨F, env, S, M _ _ _ _ _ _ q (ko.px σ) fun u env1 q1 v F1 H1 s1 S1 r1 => ko.nx _ q1 σ F1 H1 s1 S1⟩
  | _ => cases h
theorem chk_rse {c : Nat} {ns : List Str} {as : List M} {st : Stmt} (h : chkS (n + 1) cc (.rse c ns as) st = true) : ∃ x xp e es p pos, st = .Raise (some (.Call (.Name x xp) (e :: es) [] p)) none pos ∧ (decide ((c, x, ns) ∈ cc.excs) && gloB cc x && chkL (chkE n cc) as (e :: es) && decide (ns.length = as.length)) = true := by
  unfold chkS at h
  dsimp only at h
  split at h
  · exact ⟨_, _, _, _, _, _, rfl, h⟩
  · cases h
theorem chk_tri {b : List S} {c i : Nat} {hs : List HS} {st : Stmt} (h : chkS (n + 1) cc (.tri b c i hs) st = true) : ∃ body x np nm s0 su hp pos, st = .Try body [.ExceptHandler (some (.Name x np)) (some nm) (s0 :: su) hp] [] [] pos ∧ (decide ((c, x) ∈ cc.cats) && gloB cc x && decide (cc.N[i]? = some nm) && decide (cc.sc.names.lookup nm = some .local) && chkSs (chkS n cc) b body && chkHSs (chkHS cc i n) hs (s0 :: su) && cc.top) = true := by
  unfold chkS at h
  dsimp only at h
  split at h
  · exact ⟨_, _, _, _, _, _, _, _, rfl, h⟩
  · cases h
theorem snd_rse (ok : Ok Γ CT X W cc) (Z : Zt) {c : Nat} {ns : List Str} {as : List M} {st : Stmt} (h : chkS (n + 1) cc (.rse c ns as) st = true) : PS X st (tS Γ CT X.K W Z (n + 1) (.rse c ns as)) := by
  obtain ⟨x, xp, e, es, p, pos, rfl, h⟩ := chk_rse h
  · obtain ⟨h, h4⟩ := and_split h
    obtain ⟨h, h3⟩ := and_split h
    obtain ⟨h1, h2⟩ := and_split h
    obtain ⟨gl, gd⟩ := ok.gl h2
    obtain ⟨C, k, e1, gC, kC, rs, mk, hr⟩ := ok.exs c x ns (of_decide_eq_true h1)
    have hl := of_decide_eq_true h4
    have st0 : starEach (e :: es) X.env = (false, eval e X.env) :: starEach es X.env ∧ (backTo p (starEach es X.env)).any (·.1) = false := by
      cases as with
      | nil => cases h3
      | cons m ms =>
        obtain ⟨k1, k2⟩ := and_split h3
        exact ⟨chk_star k1 [] es _, noStar (fun m e he es => chk_star he [] es _) k2⟩
    refine PS.imp (ps_raise ok.calm ok.tk (pmk_err hr mk gC kC rs (snd_Vs (soundE Γ CT n) ok Z h3) gl gd st0.1 st0.2)) ?_
    rintro D σ H ⟨F, env, k, S, ko, q⟩
    rw [wpS_succ] at q
    unfold wpS1 at q
    dsimp only at q
    refine ⟨F, env, S, wpVs_mono (wpE_mono Γ n) (wpVs_len (wpE_mono Γ n) q) (ko.px σ) fun ds env1 ⟨el, q1⟩ vs F1 H1 s1 S1 r1 => ⟨by rw [r1.length, el, hl], fun d hd => ?_⟩⟩
    have fd := noneF S1.le hd
    have g := Grow.froz (o := .xd (ns.zip vs)) S1.le hd
    exact ko.ex _ _ q1 σ _ _ _ _ (s1.trans g.f) (S1.grow g) ⟨C, ns, d, vs, ds, e1, rfl, rfl, upd_same, r1.mono g.f, by rw [r1.length, el, hl], rfl⟩
theorem ok_tr (ok : Ok Γ CT X W cc) {pn : List (Addr × Obj)} {xe : Value → Shared → Prop} {W' : WX} (tk : Takes (X.tr pn xe) W') (po : PassesOwn (model X.prog X.w) X.A X.env xe) : Ok Γ CT (X.tr pn xe) W' cc where
  n := ok.n
  nd := ok.nd
  sc := ok.sc
  st := ok.st
  calm := ok.calm
  tk := tk
  po := po
  un := ok.un
  blt := ok.blt
  gcd := ok.gcd
  lcm := ok.lcm
  cons := ok.cons
  fns := fun f S h => ⟨(ok.fns f S h).ex⟩
  full := ok.full
  frm := ok.frm
  xc := ok.xc
  cat := ok.cat
  exs := ok.exs
theorem snd_tri (IH : SoundS Γ CT n) (ok : Ok Γ CT X W cc) (Z : Zt) {b : List S} {c i : Nat} {hs : List HS} {st : Stmt} (h : chkS (n + 1) cc (.tri b c i hs) st = true) : PS X st (tS Γ CT X.K W Z (n + 1) (.tri b c i hs)) := by
  obtain ⟨body, x, np, nm, s0, su, hp, pos, rfl, h⟩ := chk_tri h
  · obtain ⟨h, h7⟩ := and_split h
    obtain ⟨h, h6⟩ := and_split h
    obtain ⟨h, h5⟩ := and_split h
    obtain ⟨h, h4⟩ := and_split h
    obtain ⟨h, h3⟩ := and_split h
    obtain ⟨h1, h2⟩ := and_split h
    obtain ⟨gl, gd⟩ := ok.gl h2
    obtain ⟨D0, cn, fact⟩ := ok.cat c x (of_decide_eq_true h1)
    have nms : Names X x D0 := by
      refine ⟨gl, gd, ?_⟩
      rcases cn with ⟨A, rfl, hm⟩ | ⟨T, rfl, hm, hb, hn⟩
      · exact .inl hm
      · exact .inr ⟨hm, hb, hn⟩
    have hi := at_len ok h3
    have hln : X.env.kindOf nm = some .local := by
      show X.env.scope.names.lookup nm = _
      rw [ok.sc]; exact of_decide_eq_true h4
    obtain ⟨f1, f2⟩ := ok.frm h7
    refine PS.imp (ps_try_as (i := i) (tb := fun W' => tSs Γ CT X.K W' Z n b) (ts := fun a cls d => tHSs CT i a cls d hs) (Wout := W) f1 f2 ok.nd hi hln nms ok.tk (fun W' pn xe tk po => snd_Ss IH (ok_tr ok tk po) Z h5)
      (fun a oe cls d pn hz hf => snd_HSs (snd_HS ok hz hf hi n) hs (s0 :: su) h6)) ?_
    rintro D σ H ⟨F, env, k, S, ko, q⟩
    rw [wpS_succ] at q
    unfold wpS1 at q
    dsimp only at q
    refine ⟨F, env, _, S, ?_, q⟩
    refine ⟨ko.nx, ko.bk, ko.ct, ko.rt, ?_⟩
    intro y env' hx σ' cls d F' H' s' S' xr
    obtain ⟨qt, qf⟩ := brP_get hx
    have xr0 := xr
    obtain ⟨C, ns, dx, vs, ds, e1, e2, e3, e4, e5, e6, e7⟩ := xr0
    refine ⟨subX y.c c, by rw [e2]; exact (fact _ _ _ e1).1, fun hb a ha => ?_, fun hb => ko.ex y env' (qf hb) σ' _ _ F' H' s' S' xr⟩
    obtain ⟨r, er, q1⟩ := optP_get (qt hb)
    obtain ⟨pl, q2⟩ := ckP_get q1
    have hX : Z.X i = none := S'.plain pl
    have back : ∀ {F2 H2}, Grow F' H' F2 H2 → SR X.K Z F2 H2 σ' (put env' i none) := fun g => (S'.grow g).forget' hX
    refine ⟨F', y, ⟨S'.le, ⟨σ', rfl⟩, xr⟩, r, er, ?_⟩
    cases r with
    | some w => exact fun v F2 H2 g rv => ko.rt (.v w) _ q2 v σ' F2 H2 (s'.trans g.f) (back g) rv
    | none =>
      intro F2 H2 g
      have e0 : (σ'.set i (some (.ref a))).set i none = σ'.set i none := List.set_set ..
      show D.nx ((σ'.set i (some (.ref a))).set i none) H2
      rw [e0]
      have w := (S'.grow g).wipes (is := [i]) (fun j hj => by rw [List.mem_singleton.mp hj]; exact hX)
      exact ko.nx _ q2 (σ'.set i none) F2 H2 (s'.trans g.f) w
/-- all statements -/
theorem soundS (Γ : Nat → Option FS) (CT : CTab) : ∀ n, SoundS Γ CT n
  | 0 => by intro cc X W ok Z s st h; cases h
  | n + 1 => by
    have IH := soundS Γ CT n
    intro cc X W ok Z s st h
    have simple : ∀ {Pq : GM.K → Env → Prop} {t : TS}, PS X st t → (∀ env k, wpS Γ (n + 1) s env k → Pq k env) → (∀ D σ H F env k, SR X.K Z F H σ env → KOk CT X.K W Z F D k → Pq k env → t D σ H) → PS X st (tS Γ CT X.K W Z (n + 1) s) := fun {Pq t} h1 h2 h3 =>
      PS.imp h1 fun D σ H ⟨F, env, k, S, ko, q⟩ => h3 D σ H F env k S ko (h2 env k q)
    cases s with
    | asg t e => cases t with
      | nm i => exact snd_asg ok Z h
      | tp ts => exact snd_asgT ok Z h
    | seti i ix e => exact snd_seti ok Z h
    | augi i ix op e => exact snd_augi ok Z h
    | aug i op e => exact snd_aug ok Z h
    | par i j a b => exact snd_par ok Z h
    | ite c a b => exact snd_ite IH ok Z h
    | whl c b => exact snd_while IH ok Z h
    | for_ t it b => exact snd_for IH ok Z h
    | ret e => exact snd_ret ok Z h
    | ret0 =>
      cases st with
      | Return ov p => cases ov with
        | none => exact PS.imp ps_retN fun D σ H ⟨F, env, k, S, ko, q⟩ => ko.rt _ _ q .non σ F H same_refl S .non
        | some v => cases h
      | _ => cases h
    | exp e => exact snd_exp ok Z h
    | brk => cases st with
      | Break p => exact PS.imp ps_break fun D σ H ⟨F, env, k, S, ko, q⟩ => ko.bk _ q σ F H same_refl S
      | _ => cases h
    | jdip i j => exact snd_dip ok Z h
    | cnt => cases st with
      | Continue p => exact PS.imp ps_continue fun D σ H ⟨F, env, k, S, ko, q⟩ => ko.ct _ q σ F H same_refl S
      | _ => cases h
    | pas => cases st with
      | Pass p => exact PS.imp ps_pass fun D σ H ⟨F, env, k, S, ko, q⟩ => ko.nx _ q σ F H same_refl S
      | Expr v p => cases v with
        | Constant c j pos => cases c with
          | str x => exact PS.imp ps_doc fun D σ H ⟨F, env, k, S, ko, q⟩ => ko.nx _ q σ F H same_refl S
          | _ => cases h
        | _ => cases h
      | _ => cases h
    | rse c ns as => exact snd_rse ok Z h
    | tri b c i hs => exact snd_tri IH ok Z h
end
end GM

set_option maxRecDepth 100000
/-! GM: defs keep their promises -/
namespace GM
open PySem PySem.Spec PyProof.Rows L2
theorem pair_len {α β : Type} {R : α → β → Prop} : ∀ {xs : List α} {ys : List β}, Paired R xs ys → xs.length = ys.length
  | _, _, .nil => rfl
  | _, _, .cons _ t => by simp [pair_len t]
theorem pair_getL {α β : Type} {R : α → β → Prop} : ∀ {xs : List α} {ys : List β} {i : Nat} {x : α}, Paired R xs ys → xs[i]? = some x → ∃ y, ys[i]? = some y ∧ R x y
  | _, _, _, _, .nil, e => by simp at e
  | _, _, 0, _, .cons h _, e => by simp at e; subst e; exact ⟨_, rfl, h⟩
  | _, _, i + 1, y, .cons _ t, e => by
    obtain ⟨x, h1, h2⟩ := pair_getL (i := i) (x := y) t (by simpa using e)
    exact ⟨x, by simpa using h1, h2⟩
theorem get_at : ∀ (e : Env) (i : Nat), get e i = (e[i]?).bind id
  | [], _ => by simp [get]
  | u :: r, 0 => by simp [get]
  | u :: r, i + 1 => by simp [get, get_at r i]
theorem start_get {n : Nat} {us : List U} {i : Nat} {u : U} : get (GM.start n us) i = some u ↔ us[i]? = some u := by
  rw [get_at]
  unfold GM.start
  by_cases h : i < us.length
  · rw [List.getElem?_append_left (by simpa using h), List.getElem?_map, List.getElem?_eq_getElem h]
    simp
  · rw [List.getElem?_append_right (by simpa using h), List.getElem?_eq_none (by omega : us.length ≤ i)]
    rw [List.getElem?_replicate]
    split <;> simp
theorem start_at {N : List Str} {vs : List V} {i : Nat} {v : V} (h : vs[i]? = some v) : (L2.start N vs)[i]? = some (some v) := by
  unfold L2.start
  have hl := (List.getElem?_eq_some_iff.mp h).1
  rw [List.getElem?_append_left (by simpa using hl), List.getElem?_map, h]
  rfl
theorem fin_get : ∀ {us : List U} {env : Env} {i : Nat} {xs ys : List D}, us[i]? = some (.r xs) → get env i = some (.r ys) → (fin us env)[i]? = some (.r ys)
  | [], _, _, _, _, h, _ => by simp at h
  | u :: us, [], i, xs, ys, _, g => by simp [get] at g
  | u :: us, w :: env, 0, xs, ys, h, g => by
    simp at h
    subst h
    have g : w = some (.r ys) := g
    subst g
    rfl
  | u :: us, w :: env, i + 1, xs, ys, h, g => by
    have ih := fin_get (us := us) (env := env) (i := i) (xs := xs) (ys := ys) (by simpa using h) g
    cases u with
    | r zs =>
      cases w with
      | none => exact ih
      | some w => cases w <;> exact ih
    | _ => exact ih
open Classical in
noncomputable def refX (vs : List V) (us : List U) : Nat → Option Addr := fun i => if h : ∃ xs a, us[i]? = some (.r xs) ∧ vs[i]? = some (.ref a) then some h.choose_spec.choose else none
theorem refX_get {vs : List V} {us : List U} {i : Nat} {a : Addr} (h : refX vs us i = some a) : ∃ xs, us[i]? = some (.r xs) ∧ vs[i]? = some (.ref a) := by
  unfold refX at h
  split at h
  · rename_i hh
    have e := hh.choose_spec.choose_spec
    cases h
    exact ⟨_, e.1, e.2⟩
  · cases h
theorem refX_of {vs : List V} {us : List U} {i : Nat} {a : Addr} {xs : List D} (h1 : us[i]? = some (.r xs)) (h2 : vs[i]? = some (.ref a)) : refX vs us i = some a := by
  unfold refX
  have hh : ∃ xs a, us[i]? = some (.r xs) ∧ vs[i]? = some (.ref a) := ⟨xs, a, h1, h2⟩
  rw [dif_pos hh]
  have e2 := h2.symm.trans hh.choose_spec.choose_spec.2
  have e3 : V.ref a = V.ref hh.choose_spec.choose := by injection e2
  have e4 : a = hh.choose_spec.choose := by injection e3
  exact congrArg some e4.symm
noncomputable def entryZ (F H : Hp) (vs : List V) (us : List U) : Zt := ⟨F, Prot H vs us, fun b => H b = none, RefAt vs us, refX vs us⟩
theorem sub_prot (H : Hp) (vs : List V) (us : List U) : ∀ b o, Prot H vs us b = some o → H b = some o := fun b o h => by
  unfold Prot at h
  split at h
  · cases h
  · exact h
theorem entry_SR {K : PySem.W.Frag} {F H : Hp} {N : List Str} {vs : List V} {us : List U} (s : Same F H) (rel : Paired (ArgR K F H (Prot H vs us)) vs us) (ap : Apart vs us) : SR K (entryZ F H vs us) F H (L2.start N vs) (GM.start N.length us) := by
  have hl := pair_len rel
  have own : ∀ {i}, Own (GM.start N.length us) i → ∃ xs, us[i]? = some (.r xs) := fun {i} o => by
    rcases o with ⟨xs, g⟩ | ⟨xs, g⟩
    · rw [start_get] at g
      obtain ⟨v, _, r⟩ := pair_get rel g
      exact r.elim
    · rw [start_get] at g; exact ⟨xs, g⟩
  refine ⟨?_, s, sub_prot H vs us, same_refl, fun b h => .inl h, fun b h => h, fun i u g => ?_, fun i j a ne oi oj e1 e2 => ?_, fun i a h => ?_⟩
  · unfold GM.start L2.start
    simp [hl]
  · rw [start_get] at g
    obtain ⟨v, hv, r⟩ := pair_get rel g
    refine ⟨v, start_at hv, ?_⟩
    cases u with
    | v d => exact r
    | o xs => exact r.elim
    | r xs =>
      obtain ⟨a, ws, rfl, h1, h2, h3⟩ := r
      have hr : RefAt vs us a := ⟨i, xs, g, hv⟩
      exact ⟨a, ws, rfl, h1, h2, h3, hr, by show Prot H vs us a = none; unfold Prot; rw [if_pos hr]⟩
    | s ns =>
      obtain ⟨a, rfl, h1, h2⟩ := r
      refine ⟨a, rfl, h1, h2, fun hN => ?_⟩
      have hN : H a = none := hN
      rcases h1 with (h | ⟨o, h⟩) | h
      · rw [sub_prot H vs us _ _ h] at hN; cases hN
      · rw [sub_prot H vs us _ _ h] at hN; cases hN
      · exact .inr h
    | x c fs => exact r.elim
  · obtain ⟨xs, h1⟩ := own oi
    obtain ⟨ys, h2⟩ := own oj
    obtain ⟨v, hv, _⟩ := pair_get rel h1
    obtain ⟨w, hw, _⟩ := pair_get rel h2
    rw [start_at hv] at e1
    rw [start_at hw] at e2
    cases e1
    cases e2
    exact ap i j xs ys a ne h1 h2 hv hw
  · obtain ⟨xs, h1, h2⟩ := refX_get h
    exact ⟨⟨xs, start_get.mpr h1⟩, start_at h2⟩
theorem exit_After {K : PySem.W.Frag} {F H F' H' : Hp} {σ : L2.St} {env : Env} {vs : List V} {us : List U} (rel : Paired (ArgR K F H (Prot H vs us)) vs us) (S : SR K (entryZ F H vs us) F' H' σ env) : After F H F' H' vs us (fin us env) := by
  refine ⟨S.base, S.le, fun b h => ?_, fun b o h hn => ?_, fun i xs h => ?_⟩
  · rcases S.new b h with z | z
    · exact .inl z
    · exact .inr z.1
  · refine S.keep b o ?_
    show Prot H vs us b = some o
    unfold Prot
    rw [if_neg hn]
    exact h
  · obtain ⟨v, hv, a, ws, rfl, h1, h2, h3⟩ := pair_get rel h
    obtain ⟨⟨ys, g⟩, e⟩ := S.ref i a (refX_of h hv)
    obtain ⟨v', e', b, us', rfl, k1, k2, k3, _⟩ := S.slot i _ g
    rw [e] at e'
    cases e'
    exact ⟨ys, a, us', fin_get h g, hv, k1, k2, k3⟩
theorem exit_RN {K : PySem.W.Frag} {F H F' H' : Hp} {σ : L2.St} {env : Env} {vs : List V} {us : List U} {v : V} {u : U} (r : RU (entryZ F H vs us) F' H' σ env v u) : RN H F' H' v u := by
  cases u with
  | v d => exact r
  | o xs => obtain ⟨a, ws, rfl, h1, h2, h3, h4, _⟩ := r; exact ⟨a, ws, rfl, h4, h1, h2, h3⟩
  | r xs => exact r
  | s ns => exact r
  | x c fs => exact r
section
variable {P : Program} {w : World} {K : PySem.W.Frag} {mg : Str → Option Value} {base : Heap}
/-- what stands behind the names of a body -/
structure Glob (P : Program) (w : World) (K : PySem.W.Frag) (mg : Str → Option Value) (base : Heap) (CT : CTab) (Γ : Nat → Option FS) (cc : CC) (k : Nat) : Prop where
  blt : ∀ x ∈ blts, mg x = none
  gcd : cc.gcd = true → mg "gcd" = some (.builtin "math.gcd")
  lcm : cc.lcm = true → mg "lcm" = some (.builtin "math.lcm")
  cons : ∀ x i, cc.cons.lookup x = some i → ∃ t, mg x = some (.int i t)
  fns : ∀ f S, Γ f = some S → ∃ (x : Str) (fa : Addr) (fd : FuncData) (ps : List Str) (j : Nat), cc.fns[f]? = some x ∧ mg x = some (.ref fa) ∧ PySem.W.keepIn K (.ref fa) = true ∧ Binds K fd ps [] ∧ FnOk P w K mg base (L2.CX P w) j fa fd ps (spOf K CT S) ∧ j ≤ k ∧ ∀ p ∈ cc.pats, p.1 = f → KB K fd ps p
  full : ∀ f x, cc.fns[f]? = some x → ∃ S, Γ f = some S
  xc : ∀ c C ns, CT c = some (C, ns) → ErrC K C ns
  cat : ∀ d x, (d, x) ∈ cc.cats → ∃ D : Value, CatN mg x D ∧ ∀ c C ns, CT c = some (C, ns) → PySem.W.exmOne K (.ref C) D = some (subX c d) ∧ PySem.W.kitOne K (.ref C) D = some (subX c d)
  exs : ∀ c x ns, (c, x, ns) ∈ cc.excs → 1 ≤ k ∧ ∃ C, CT c = some (C, ns) ∧ mg x = some (.ref C) ∧ PySem.W.keepIn K (.ref C) = true ∧ PySem.W.subIn K (.ref C) (.type "BaseException") = some true ∧ PySem.W.typeIn K (.ref C) = some (.type "type") ∧ EX.Makes P w K mg C ns
theorem fn_ok {x qual : Str} {st : Stmt} {f : Addr} {fd : FuncData} {N ps : List Str} {k : Nat} (F : Fun K x qual st f fd) (Sc : FnScope N ps (defScope st)) {S : FS} {Γ : Nat → Option FS} {CT : CTab} {n : Nat} {cc : CC} {body : List GM.S}
    (hN : cc.N = N) (hsc : cc.sc = defScope st) (hst : ∀ x, cc.st x = true → Loc (defScope st) x) (G : Glob P w K mg base CT Γ cc k) (chk : chkSs (chkS n cc) body (defBody st) = true) (len : ∀ a, S.pre a → (S.args a).length = ps.length)
    (wp : ∀ a, S.pre a → wpF Γ n body N.length (S.args a) (S.post a) (S.exc a)) : FnOk P w K mg base (L2.CX P w) (k + 1) f fd ps (spOf K CT S) := by
  refine F.okX Sc (fun vs H Q E h => ?_) fun cdv A outer s H vs Q E hr h => ?_
  · obtain ⟨a, F0, _, rel, _, pre, _⟩ := h
    rw [pair_len rel]; exact len a pre
  · obtain ⟨a, F0, sF, rel, ap, pre, q1, q2⟩ := h
    have ok : Ok Γ CT (cxOf (L2.CX P w) P w K mg base N qual (defScope st) f cdv A outer s H E) (fun cls d _ H => E cls d H) cc := {
      n := hN.symm
      nd := Sc.nd
      sc := hsc.symm
      st := fun y hy => ⟨hst y hy, .inl rfl⟩
      calm := rfl
      tk := takes_of rfl rfl rfl rfl
      po := passes_of rfl
      un := by
        have e := hr.un
        show (A.deeper _).units + 65 < cLine
        omega
      blt := G.blt
      gcd := G.gcd
      lcm := G.lcm
      cons := G.cons
      fns := fun f S h => by
        obtain ⟨x, fa, fd, ps, j, h1, h2, h3, h4, h5, h6, h7⟩ := G.fns f S h
        exact ⟨x, fa, fd, ps, j, h1, h2, h3, h4, h5, hr.mono h6, h7⟩
      full := G.full
      frm := fun _ => ⟨rfl, rfl⟩
      xc := G.xc
      cat := G.cat
      exs := fun c x ns h => by
        obtain ⟨hk, C, h1, h2, h3, h4, h5, h6⟩ := G.exs c x ns h
        exact ⟨C, 0, h1, h2, h3, raises_own h4 h5, h6, hr.mono hk⟩ }
    refine ⟨tSs Γ CT K (fun cls d _ H => E cls d H) (entryZ F0 H vs (S.args a)) n body, snd_Ss (soundS Γ CT n) ok _ chk, F0, GM.start N.length (S.args a), _, entry_SR sF rel ap, ?_, wp a pre⟩
    refine ⟨fun e q σ' F' H' s' S' => ?_, fun e q => q.elim, fun e q => q.elim, fun u e q v σ' F' H' s' S' r => ?_, fun x e q σ' cls d F' H' s' S' xr => ?_⟩
    · exact q1 _ _ _ F' H' q (exit_After rel S') .non
    · exact q1 _ _ _ F' H' q (exit_After rel S') (exit_RN (K := K) r)
    · exact q2 _ _ _ _ F' H' q (exit_After rel S') xr
end
end GM

set_option maxRecDepth 100000
/-! GM: loops, places, small promises -/
namespace GM
open PySem PySem.Spec PyProof.Rows L2
def gam (l : List FS) (i : Nat) : Option FS := l[i]?
theorem forP_inv {step : D → Env → (Env → Prop) → Prop} {xs : List D} {env : Env} {done : Env → Prop} (I : Nat → Env → Prop) (h0 : I 0 env)
    (hs : ∀ i x e (nx : Env → Prop), xs[i]? = some x → I i e → (∀ e', I (i + 1) e' → nx e') → step x e nx) (hd : ∀ e, I xs.length e → done e) : forP step xs env done := by
  unfold forP
  have go : ∀ (ys : List D) (k : Nat) (e : Env), xs.drop k = ys → k ≤ xs.length → I k e → forL step ys e done := by
    intro ys
    induction ys with
    | nil =>
      intro k e hk hl hI
      have : k = xs.length := by have := congrArg List.length hk; simp at this; omega
      subst this
      exact hd e hI
    | cons y ys ih =>
      intro k e hk hl hI
      have hlt : k < xs.length := by
        have := congrArg List.length hk
        simp at this
        omega
      have hy : xs[k]? = some y := by
        have : (xs.drop k)[0]? = some y := by rw [hk]; rfl
        simpa using this
      refine hs k y e _ hy hI fun e' hI' => ih (k + 1) e' ?_ hlt hI'
      rw [← List.drop_drop, hk]
      rfl
  exact go xs 0 env rfl (Nat.zero_le _) h0
theorem whileP_inv {step : Env → (Env → Prop) → Prop} {env : Env} (I : Nat → Env → Prop) (m : Nat) (h0 : I m env) (hs : ∀ m e (nx : Env → Prop), I m e → (∀ m' e', m' < m → I m' e' → nx e') → step e nx) : whileP step env := by
  unfold whileP
  have go : ∀ (n m : Nat) (e : Env), m < n → I m e → whileN step n e := by
    intro n
    induction n with
    | zero => intro m e h; omega
    | succ n ih => intro m e h hI; exact hs m e _ hI fun m' e' hm hI' => ih m' e' (by omega) hI'
  exact ⟨m + 1, go (m + 1) m env (by omega) h0⟩
/-- a comprehension whose turns leave the slots alone -/
theorem compP_each {step : D → Env → (List D → Env → Prop) → Prop} (f : D → List D) {env : Env} {Q : List D → Env → Prop} : ∀ {xs : List D} {acc : List D}, (∀ x ∈ xs, ∀ nx : List D → Env → Prop, nx (f x) env → step x env nx) → Q (acc ++ xs.flatMap f) env → compP step xs env acc Q
  | [], acc, _, q => compP_nil (by simpa using q)
  | x :: xs, acc, h, q => by
    refine compP_cons (h x List.mem_cons_self _ ?_)
    refine compP_each f (xs := xs) (fun y m => h y (List.mem_cons_of_mem _ m)) ?_
    rw [List.flatMap_cons] at q
    rw [List.append_assoc]
    exact q
theorem flatMap_one {α β : Type} (f : α → β) : ∀ xs : List α, xs.flatMap (fun x => [f x]) = xs.map f
  | [] => rfl
  | x :: xs => by rw [List.flatMap_cons, flatMap_one f xs]; rfl
theorem compP_map {step : D → Env → (List D → Env → Prop) → Prop} (f : D → D) {env : Env} {Q : List D → Env → Prop} {xs : List D} (h : ∀ x ∈ xs, ∀ nx : List D → Env → Prop, nx [f x] env → step x env nx) (q : Q (xs.map f) env) : compP step xs env [] Q :=
  compP_each (fun x => [f x]) h (by rw [flatMap_one]; exact q)
theorem compP_filter {step : D → Env → (List D → Env → Prop) → Prop} (p : D → Bool) (f : D → D) {env : Env} {Q : List D → Env → Prop} {xs : List D} (h : ∀ x ∈ xs, ∀ nx : List D → Env → Prop, nx (if p x then [f x] else []) env → step x env nx) (q : Q ((xs.filter p).map f) env) : compP step xs env [] Q :=
  compP_each (fun x => if p x then [f x] else []) h (by
    have : ∀ xs : List D, xs.flatMap (fun x => if p x then [f x] else []) = (xs.filter p).map f := by
      intro xs
      induction xs with
      | nil => rfl
      | cons x xs ih =>
        rw [List.flatMap_cons, ih, List.filter_cons]
        cases p x <;> rfl
    rw [this]
    exact q)
/-! places -/
theorem atD_nat {α : Type} {xs : List α} {i : Nat} {x : α} (h : xs[i]? = some x) : atD xs (i : Int) = some x := h
theorem atD_pos {α : Type} {xs : List α} {i : Int} {x : α} (h0 : 0 ≤ i) (h : xs[i.toNat]? = some x) : atD xs i = some x := by
  obtain ⟨n, rfl⟩ := Int.eq_ofNat_of_zero_le h0
  exact h
theorem idx_list {xs : List D} {i : Int} {x : D} (h0 : 0 ≤ i) (h : xs[i.toNat]? = some x) : idxD (.list xs) (.int i) = some x := atD_pos h0 h
theorem idx_tup {xs : List D} {i : Int} {x : D} (h0 : 0 ≤ i) (h : xs[i.toNat]? = some x) : idxD (.tuple xs) (.int i) = some x := atD_pos h0 h
theorem set_pos {xs : List D} {i : Int} {d : D} (h0 : 0 ≤ i) (h : i < xs.length) : setAt xs (.int i) d = some (xs.set i.toNat d) := by
  unfold setAt ixN
  simp only [h0, h, if_true]
theorem ints_some : ∀ ns : List Int, intsD (ns.map .int) = some ns
  | [] => rfl
  | n :: ns => by
    show (match intsD (ns.map .int) with | some is => some (n :: is) | none => none) = _
    rw [ints_some ns]
theorem pop_last (xs : List D) (x : D) : mthD .pop (xs ++ [x]) [] = some (x, xs) := by
  simp [mthD]
theorem rng_get {lo : Int} {n i : Nat} {x : D} (h : (rngI lo n)[i]? = some x) : i < n ∧ x = .int (lo + i) := by
  have hl : i < n := by
    have := (List.getElem?_eq_some_iff.mp h).1
    rwa [rngI_length] at this
  rw [rngI_get hl] at h
  exact ⟨hl, by cases h; rfl⟩
theorem eqv_int (a b : Int) : PyData.eqv (.int a) (.int b) = decide (a = b) := by
  rw [PyData.eqv]
  by_cases h : a = b <;> simp [h]
/-! a def that changes nothing -/
def pureS {α : Type} (args : α → List U) (pre : α → Prop) (post : α → D → Prop) : FS := { α := α, args := args, pre := pre, post := fun a r us' => (∃ d, r = .v d ∧ post a d) ∧ us' = args a }
/-- all ints, at least one: what the law draws from -/
def PoolOk (p : List D) : Prop := ∃ ns : List Int, p = ns.map .int ∧ ns ≠ [] ∧ (∀ n ∈ ns, 0 ≤ n) ∧ ns.length ≤ 100
/-- (pool, many): a number below many -/
def drawS : FS := { α := List D × Int, args := fun a => [.r a.1, .v (.int a.2)], pre := fun a => PoolOk a.1 ∧ 0 < a.2 ∧ a.2 < 1073741824, post := fun a r us' => ∃ (k : Int) (p : List D), r = .v (.int k) ∧ 0 ≤ k ∧ k < a.2 ∧ PoolOk p ∧ us' = [.r p, .v (.int a.2)] }
theorem call_draw {o : Option FS} {p : List D} {m : Int} {Qx : EX → List U → Prop} {Q : U → List U → Prop} (ho : o = some drawS) (h : PoolOk p) (h1 : 0 < m) (h2 : m < 1073741824) (q : ∀ k p', 0 ≤ k → k < m → PoolOk p' → Q (.v (.int k)) [.r p', .v (.int m)]) : callP o [.r p, .v (.int m)] Qx Q :=
  callP_of drawS ho (p, m) rfl ⟨h, h1, h2⟩ (by rintro r us' ⟨k, p', rfl, k1, k2, k3, rfl⟩; exact q k p' k1 k2 k3) fun _ _ h => h.elim
/-- (pool, row): one of row -/
def pickS : FS := { α := List D × List D, args := fun a => [.r a.1, .v (.list a.2)], pre := fun a => PoolOk a.1 ∧ a.2 ≠ [] ∧ a.2.length ≤ 1000000, post := fun a r us' => ∃ (d : D) (p : List D), r = .v d ∧ d ∈ a.2 ∧ PoolOk p ∧ us' = [.r p, .v (.list a.2)] }
theorem call_pick {o : Option FS} {p row : List D} {Qx : EX → List U → Prop} {Q : U → List U → Prop} (ho : o = some pickS) (h : PoolOk p) (h1 : row ≠ []) (h2 : row.length ≤ 1000000) (q : ∀ d p', d ∈ row → PoolOk p' → Q (.v d) [.r p', .v (.list row)]) : callP o [.r p, .v (.list row)] Qx Q :=
  callP_of pickS ho (p, row) rfl ⟨h, h1, h2⟩ (by rintro r us' ⟨d, p', rfl, k1, k2, rfl⟩; exact q d p' k1 k2) fun _ _ h => h.elim
mutual
def szD : D → Nat
  | .list xs => szDs xs + 1
  | .tuple xs => szDs xs + 1
  | .dict _ => 0
  | _ => 1
def szDs : List D → Nat
  | [] => 0
  | x :: xs => szD x + szDs xs
end
mutual
def okD : D → Bool
  | .list xs => okDs xs
  | .tuple xs => okDs xs
  | .dict _ => false
  | .str x => PyData.canLay0 (.str x)
  | _ => true
def okDs : List D → Bool
  | [] => true
  | x :: xs => okD x && okDs xs
end
/-- (told, due): the same -/
def sameS : FS := { α := D, args := fun d => [.v d, .v d], pre := fun d => okD d = true ∧ szD d ≤ 1000000, post := fun d r us' => r = .v (.bool true) ∧ us' = [.v d, .v d] }
theorem call_same {o : Option FS} {d e : D} {Qx : EX → List U → Prop} {Q : U → List U → Prop} (ho : o = some sameS) (he : d = e) (h : okD d = true) (h2 : szD d ≤ 1000000) (q : Q (.v (.bool true)) [.v d, .v d]) : callP o [.v d, .v e] Qx Q := by
  subst he
  exact callP_of sameS ho d rfl ⟨h, h2⟩ (by rintro r us' ⟨rfl, rfl⟩; exact q) fun _ _ h => h.elim
/-- a slot that may be written -/
def Fre (u : Option U) : Prop := u = none ∨ ∃ d, u = some (.v d)
theorem Fre.no : Fre none := .inl rfl
theorem Fre.v (d : D) : Fre (some (.v d)) := .inr ⟨d, rfl⟩
theorem asg_fr {env : Env} {i : Nat} {u : Option U} (h : Fre u) (g : get env i = u) : asgOk env i := by
  unfold asgOk
  rcases h with rfl | ⟨d, rfl⟩ <;> rw [g] <;> exact True.intro
theorem plain_fr {env : Env} {i : Nat} {u : Option U} (h : Fre u) (g : get env i = u) : plainAt env i := by
  unfold plainAt
  rcases h with rfl | ⟨d, rfl⟩ <;> rw [g] <;> exact True.intro
theorem divC_of {j : Int} (h : 0 < j) (h2 : j < 1073741824) : divC j := ⟨h, .inl h2⟩
theorem mulC_r {i j : Int} (h : 0 ≤ j) (h2 : j < 18446744073709551616) : mulC i j := .inl (.inr ⟨by omega, by omega⟩)
theorem mulC_l {i j : Int} (h : 0 ≤ i) (h2 : i < 18446744073709551616) : mulC i j := .inl (.inl ⟨by omega, by omega⟩)
theorem cut_none {α : Type} (xs : List α) (k : Nat) : cutL xs none (some (k : Int)) = xs.take k := by
  unfold cutL
  rw [HT.sIx_none, show HT.sIx xs.length xs.length (some (k : Int)) = min k xs.length from HT.sIx_nat xs.length xs.length k]
  rw [List.drop_zero, Nat.sub_zero]
  by_cases h : k ≤ xs.length
  · rw [Nat.min_eq_left h]
  · rw [Nat.min_eq_right (by omega), List.take_length, List.take_of_length_le (by omega)]
theorem cut_two {α : Type} (xs : List α) (a b : Nat) : cutL xs (some (a : Int)) (some (b : Int)) = (xs.take b).drop a := by
  unfold cutL
  rw [show HT.sIx xs.length 0 (some (a : Int)) = min a xs.length from HT.sIx_nat xs.length 0 a, show HT.sIx xs.length xs.length (some (b : Int)) = min b xs.length from HT.sIx_nat xs.length xs.length b]
  rw [List.drop_take]
  by_cases h : a ≤ xs.length
  · rw [Nat.min_eq_left h]
    by_cases h2 : b ≤ xs.length
    · rw [Nat.min_eq_left h2]
    · have e1 : (xs.drop a).take (xs.length - a) = xs.drop a := List.take_of_length_le (by simp)
      have e2 : (xs.drop a).take (b - a) = xs.drop a := List.take_of_length_le (by simp; omega)
      rw [Nat.min_eq_right (by omega), e1, e2]
  · have e1 : xs.drop a = [] := List.drop_of_length_le (by omega)
    have e2 : xs.drop xs.length = [] := List.drop_of_length_le (Nat.le_refl _)
    rw [Nat.min_eq_right (by omega : xs.length ≤ a), e1, e2]
    simp
theorem map_at {α : Type} {f : α → D} {xs : List α} {i : Nat} {d : D} (h : (xs.map f)[i]? = some d) : ∃ x, xs[i]? = some x ∧ d = f x := by
  rw [List.getElem?_map] at h
  cases q : xs[i]? with
  | none => rw [q] at h; simp at h
  | some x => rw [q] at h; exact ⟨x, rfl, by simpa using h.symm⟩
theorem take_at {α : Type} {xs : List α} {k i : Nat} {d : α} (h : (xs.take k)[i]? = some d) : i < k ∧ xs[i]? = some d := by
  rw [List.getElem?_take] at h
  split at h
  · exact ⟨by assumption, h⟩
  · cases h
theorem flatRep {α : Type} (n : Nat) (x : α) : (List.replicate n [x]).flatten = List.replicate n x := by
  induction n with
  | zero => rfl
  | succ n ih => rw [List.replicate_succ, List.flatten_cons, ih, List.replicate_succ]; rfl
def valS {α : Type} (args : α → List U) (pre : α → Prop) (res : α → D) : FS := { α := α, args := args, pre := pre, post := fun a r us' => r = .v (res a) ∧ us' = args a }
theorem call_val {α : Type} {args : α → List U} {pre : α → Prop} {res : α → D} {o : Option FS} {us : List U} {Qx : EX → List U → Prop} {Q : U → List U → Prop} (ho : o = some (valS args pre res)) (a : α) (e : us = args a) (h : pre a) (q : Q (.v (res a)) us) : callP o us Qx Q := by
  subst e
  exact callP_of (valS args pre res) ho a rfl h (by rintro r us' ⟨rfl, rfl⟩; exact q) fun _ _ h => h.elim
theorem div_eq {a b q : Int} (hb : 0 < b) (h1 : q * b ≤ a) (h2 : a < (q + 1) * b) : a / b = q := by
  have e1 : q ≤ a / b := (Int.le_ediv_iff_mul_le hb).mpr h1
  have e2 : a / b < q + 1 := (Int.ediv_lt_iff_lt_mul hb).mpr h2
  omega
theorem div_lo {a b : Int} (hb : 0 < b) : a / b * b ≤ a := Int.ediv_mul_le a (by omega)
theorem div_hi {a b : Int} (hb : 0 < b) : a < (a / b + 1) * b := Int.lt_ediv_add_one_mul_self a hb
theorem divC_big {j : Int} (h : 0 < j) (h2 : j < 18446744073709551616) : divC j := by
  refine ⟨h, .inr ?_⟩
  have : j.natAbs.log2 < 64 := by
    rw [Nat.log2_lt (by omega)]
    omega
  omega
theorem okDs_app : ∀ {xs ys : List D}, okDs (xs ++ ys) = (okDs xs && okDs ys)
  | [], ys => by simp [okDs]
  | x :: xs, ys => by simp [okDs, okDs_app (xs := xs) (ys := ys), Bool.and_assoc]
theorem szDs_app : ∀ {xs ys : List D}, szDs (xs ++ ys) = szDs xs + szDs ys
  | [], ys => by simp [szDs]
  | x :: xs, ys => by simp [szDs, szDs_app (xs := xs) (ys := ys), Nat.add_assoc]
theorem sz_pos {d : D} (h : okD d = true) : 1 ≤ szD d := by
  cases d <;> first | (simp [szD]; done) | (simp [okD] at h; done)
theorem len_sz : ∀ {ds : List D}, okDs ds = true → ds.length ≤ szDs ds
  | [], _ => by simp [szDs]
  | d :: ds, h => by
    obtain ⟨h1, h2⟩ := and_split (show (okD d && okDs ds) = true by simpa [okDs] using h)
    have := len_sz h2
    have := sz_pos h1
    simp [szDs]
    omega
theorem okD_list {xs : List D} : okD (.list xs) = okDs xs := by simp [okD]
theorem okD_tup {xs : List D} : okD (.tuple xs) = okDs xs := by simp [okD]
theorem okDs_at : ∀ {ds : List D} {i : Nat} {d : D}, okDs ds = true → ds[i]? = some d → okD d = true
  | [], _, _, _, e => by simp at e
  | x :: xs, 0, d, h, e => by
    obtain ⟨h1, h2⟩ := and_split (show (okD x && okDs xs) = true by simpa [okDs] using h)
    simp at e; rw [← e]; exact h1
  | x :: xs, i + 1, d, h, e => by
    obtain ⟨h1, h2⟩ := and_split (show (okD x && okDs xs) = true by simpa [okDs] using h)
    exact okDs_at h2 (by simpa using e)
theorem okDs_take : ∀ {ds : List D} {k : Nat}, okDs ds = true → okDs (ds.take k) = true
  | [], _, _ => by simp [okDs]
  | x :: xs, 0, _ => by simp [okDs]
  | x :: xs, k + 1, h => by
    obtain ⟨h1, h2⟩ := and_split (show (okD x && okDs xs) = true by simpa [okDs] using h)
    simp [okDs, h1, okDs_take (k := k) h2]
theorem szDs_take : ∀ {ds : List D} {k : Nat}, szDs (ds.take k) ≤ szDs ds
  | [], _ => by simp [szDs]
  | x :: xs, 0 => by simp [szDs]
  | x :: xs, k + 1 => by
    have := szDs_take (ds := xs) (k := k)
    simp [szDs]
    omega
end GM

set_option maxRecDepth 100000
/-! GM: comprehensions by an invariant; data without lists; places of written tuples -/
namespace GM
open PySem PySem.Spec PyProof.Rows L2
theorem compP_inv {step : D → Env → (List D → Env → Prop) → Prop} {xs : List D} {env : Env} {acc0 : List D} {Q : List D → Env → Prop} (I : Nat → List D → Env → Prop) (h0 : I 0 acc0 env)
    (hs : ∀ i x acc e (nx : List D → Env → Prop), xs[i]? = some x → I i acc e → (∀ ds e', I (i + 1) (acc ++ ds) e' → nx ds e') → step x e nx) (hd : ∀ acc e, I xs.length acc e → Q acc e) : compP step xs env acc0 Q := by
  have go : ∀ (ys : List D) (k : Nat) (acc : List D) (e : Env), xs.drop k = ys → k ≤ xs.length → I k acc e → compP step ys e acc Q := by
    intro ys
    induction ys with
    | nil =>
      intro k acc e hk hl hI
      have : k = xs.length := by have := congrArg List.length hk; simp at this; omega
      subst this
      exact compP_nil (hd acc e hI)
    | cons y ys ih =>
      intro k acc e hk hl hI
      have hlt : k < xs.length := by
        have := congrArg List.length hk
        simp at this
        omega
      have hy : xs[k]? = some y := by
        have : (xs.drop k)[0]? = some y := by rw [hk]; rfl
        simpa using this
      refine compP_cons (hs k y acc e _ hy hI fun ds e' hI' => ih (k + 1) (acc ++ ds) e' ?_ hlt hI')
      rw [← List.drop_drop, hk]
      rfl
  exact go xs 0 acc0 env rfl (Nat.zero_le _) h0
/-- a comprehension that gathers one item each turn -/
theorem compP_gather {step : D → Env → (List D → Env → Prop) → Prop} {xs : List D} {env : Env} {Q : List D → Env → Prop} (P : D → Prop) (I : Env → Prop) (h0 : I env)
    (hs : ∀ (i : Nat) (x : D) (e : Env) (nx : List D → Env → Prop), xs[i]? = some x → I e → (∀ d e', P d → I e' → nx [d] e') → step x e nx) (hd : ∀ acc e, acc.length = xs.length → (∀ d ∈ acc, P d) → I e → Q acc e) : compP step xs env [] Q :=
  compP_inv (fun i acc e => acc.length = i ∧ (∀ d ∈ acc, P d) ∧ I e) ⟨rfl, by simp, h0⟩
    (fun i x acc e nx hx ⟨h1, h2, h3⟩ hn => hs i x e nx hx h3 fun d e' hp hi => hn [d] e' ⟨by simp [h1], fun y hy => by
      rcases List.mem_append.mp hy with hy | hy
      · exact h2 y hy
      · rw [List.mem_singleton.mp hy]; exact hp, hi⟩) fun acc e ⟨h1, h2, h3⟩ => hd acc e h1 h2 h3
/-- an item of a written tuple, by what all of them are -/
theorem pick_tup {xs : List D} {i : Int} {P : D → Prop} (h0 : 0 ≤ i) (h1 : i < xs.length) (hp : ∀ x ∈ xs, P x) : ∃ x, idxD (.tuple xs) (.int i) = some x ∧ P x := by
  have hk : i.toNat < xs.length := by omega
  exact ⟨xs[i.toNat], idx_tup h0 (List.getElem?_eq_getElem hk), hp _ (List.getElem_mem hk)⟩
theorem pick_list {xs : List D} {i : Int} {P : D → Prop} (h0 : 0 ≤ i) (h1 : i < xs.length) (hp : ∀ x ∈ xs, P x) : ∃ x, idxD (.list xs) (.int i) = some x ∧ P x := by
  have hk : i.toNat < xs.length := by omega
  exact ⟨xs[i.toNat], idx_list h0 (List.getElem?_eq_getElem hk), hp _ (List.getElem_mem hk)⟩
/-! data of tuples, numbers, truth values, texts, None -/
mutual
def okT : D → Bool
  | .list _ => false
  | .tuple xs => okTs xs
  | .dict _ => false
  | .str x => PyData.canLay0 (.str x)
  | _ => true
def okTs : List D → Bool
  | [] => true
  | x :: xs => okT x && okTs xs
end
theorem okTs_app : ∀ {xs ys : List D}, okTs (xs ++ ys) = (okTs xs && okTs ys)
  | [], ys => by simp [okTs]
  | x :: xs, ys => by simp [okTs, okTs_app (xs := xs) (ys := ys), Bool.and_assoc]
theorem okT_tup {xs : List D} : okT (.tuple xs) = okTs xs := by simp [okT]
theorem szT_pos {d : D} (h : okT d = true) : 1 ≤ szD d := by
  cases d <;> first | (simp [szD]; done) | (simp [okT] at h; done)
theorem lenT_sz : ∀ {ds : List D}, okTs ds = true → ds.length ≤ szDs ds
  | [], _ => by simp [szDs]
  | d :: ds, h => by
    obtain ⟨h1, h2⟩ := and_split (show (okT d && okTs ds) = true by simpa [okTs] using h)
    have := lenT_sz h2
    have := szT_pos h1
    simp [szDs]
    omega
theorem okTs_at : ∀ {ds : List D} {i : Nat} {d : D}, okTs ds = true → ds[i]? = some d → okT d = true
  | [], _, _, _, e => by simp at e
  | x :: xs, 0, d, h, e => by
    obtain ⟨h1, h2⟩ := and_split (show (okT x && okTs xs) = true by simpa [okTs] using h)
    simp at e; rw [← e]; exact h1
  | x :: xs, i + 1, d, h, e => by
    obtain ⟨h1, h2⟩ := and_split (show (okT x && okTs xs) = true by simpa [okTs] using h)
    exact okTs_at h2 (by simpa using e)
theorem okTs_all : ∀ {ds : List D}, (∀ d ∈ ds, okT d = true) → okTs ds = true
  | [], _ => by simp [okTs]
  | d :: ds, h => by simp [okTs, h d List.mem_cons_self, okTs_all (ds := ds) fun e he => h e (List.mem_cons_of_mem _ he)]
theorem szDs_all {b : Nat} : ∀ {ds : List D}, (∀ d ∈ ds, szD d ≤ b) → szDs ds ≤ ds.length * b
  | [], _ => by simp [szDs]
  | d :: ds, h => by
    have h1 := h d List.mem_cons_self
    have h2 := szDs_all (ds := ds) fun e he => h e (List.mem_cons_of_mem _ he)
    simp [szDs, Nat.succ_mul]
    omega
theorem okTs_ints (ns : List Int) : okTs (ns.map .int) = true := okTs_all fun d hd => by
  obtain ⟨n, _, rfl⟩ := List.mem_map.mp hd
  simp [okT]
theorem szDs_ints (ns : List Int) : szDs (ns.map .int) = ns.length := by
  induction ns with
  | nil => simp [szDs]
  | cons n ns ih => simp [szDs, szD, ih]; omega
/-- (told, due): the same; no lists -/
def sameT : FS := { α := D, args := fun d => [.v d, .v d], pre := fun d => okT d = true ∧ szD d ≤ 1000000, post := fun d r us' => r = .v (.bool true) ∧ us' = [.v d, .v d] }
theorem call_sameT {o : Option FS} {d e : D} {Qx : EX → List U → Prop} {Q : U → List U → Prop} (ho : o = some sameT) (he : d = e) (h : okT d = true) (h2 : szD d ≤ 1000000) (q : Q (.v (.bool true)) [.v d, .v d]) : callP o [.v d, .v e] Qx Q := by
  subst he
  exact callP_of sameT ho d rfl ⟨h, h2⟩ (by rintro r us' ⟨rfl, rfl⟩; exact q) fun _ _ h => h.elim
theorem shp_i (a b : Int) : shapedP (.int a) ∧ shapedP (.int b) := ⟨rfl, rfl⟩
theorem shpStr {x : Str} (h : PyData.canLay0 (.str x) = true) : shapedP (.str x) := by
  unfold shapedP SeqAt.shaped
  rw [h]; rfl
end GM

set_option maxRecDepth 100000
/-! GM: the own errors of a law, from what the kept part tells -/
namespace GM
open PySem PySem.Spec PyProof.Rows L2
/-- the first def in a class's body -/
def iniS (s : Stmt) : Stmt := match s with
  | .ClassDef _ _ _ b _ _ _ _ _ _ _ => b.headD (.Pass ⟨0, 0, 0, 0⟩)
  | _ => .Pass ⟨0, 0, 0, 0⟩
/-- the table of own errors: the first has number 1 -/
def CTl (l : List (Addr × List Str)) : CTab := fun c => match c with
  | 0 => none
  | k + 1 => l[k]?
theorem ct_of {l : List (Addr × List Str)} {Q : Nat → Addr → List Str → Prop} (h : ∀ k p, l[k]? = some p → Q (k + 1) p.1 p.2) : ∀ c C ns, CTl l c = some (C, ns) → Q c C ns
  | 0, _, _, e => nomatch e
  | k + 1, C, ns, e => h k (C, ns) e
theorem at_nil {α : Type} {Q : Nat → α → Prop} : ∀ k p, ([] : List α)[k]? = some p → Q k p := fun k p h => by simp at h
theorem at_cons {α : Type} {Q : Nat → α → Prop} {p0 : α} {l : List α} (h0 : Q 0 p0) (ht : ∀ k p, l[k]? = some p → Q (k + 1) p) : ∀ k p, (p0 :: l)[k]? = some p → Q k p := fun k p h => by
  cases k with
  | zero =>
    have e : p0 = p := by simpa using h
    rw [← e]; exact h0
  | succ k => exact ht k p (by simpa using h)
/-- what is known of one own error -/
structure OwnF (P : Program) (w : World) (K : PySem.W.Frag) (mg : Str → Option Value) (x : Str) (C : Addr) (fs : List Str) : Prop where
  err : ErrC K C fs
  nm : mg x = some (.ref C)
  keep : PySem.W.keepIn K (.ref C) = true
  be : PySem.W.subIn K (.ref C) (.type "BaseException") = some true
  ty : PySem.W.typeIn K (.ref C) = some (.type "type")
  make : EX.Makes P w K mg C fs
theorem exs_one {P : Program} {w : World} {K : PySem.W.Frag} {mg : Str → Option Value} {x : Str} {C : Addr} {fs : List Str} {k c : Nat} {CT : CTab} (O : OwnF P w K mg x C fs) (hk : 1 ≤ k) (h : CT c = some (C, fs)) :
    1 ≤ k ∧ ∃ C, CT c = some (C, fs) ∧ mg x = some (.ref C) ∧ PySem.W.keepIn K (.ref C) = true ∧ PySem.W.subIn K (.ref C) (.type "BaseException") = some true ∧ PySem.W.typeIn K (.ref C) = some (.type "type") ∧ EX.Makes P w K mg C fs :=
  ⟨hk, C, h, O.nm, O.keep, O.be, O.ty, O.make⟩
theorem cons_of {mg : Str → Option Value} : ∀ {l : List (Str × Int)}, (∀ p ∈ l, ∃ t, mg p.1 = some (.int p.2 t)) → ∀ x i, l.lookup x = some i → ∃ t, mg x = some (.int i t)
  | [], _, x, i, e => nomatch e
  | (y, j) :: l, h, x, i, e => by
    rw [List.lookup_cons] at e
    by_cases q : x == y
    · rw [q] at e
      have e1 : x = y := by simpa using q
      have e2 : j = i := by simpa using e
      subst e1 e2
      exact h (x, j) List.mem_cons_self
    · have q : (x == y) = false := by simpa using q
      rw [q] at e
      exact cons_of (fun p hp => h p (List.mem_cons_of_mem _ hp)) x i e
/-- a promise that raises nothing, by any table -/
theorem ct_any {K : PySem.W.Frag} {CT CT' : CTab} {S : FS} (h : ∀ a x us, ¬ S.exc a x us) {vs : List V} {H : Hp} {Q : VK} {E : XK} (q : spOf K CT S vs H Q E) : spOf K CT' S vs H Q E := by
  obtain ⟨a, F, h1, h2, h3, h4, h5, _⟩ := q
  exact ⟨a, F, h1, h2, h3, h4, h5, fun x us' cls d F' H' e => (h a x us' e).elim⟩
end GM

/-! remainders put together, in plain Lean -/
namespace CR
theorem dvd_lcm_gcds {d a b : Nat} (h0 : 0 < d) (h : d ∣ Nat.lcm a b) : d ∣ Nat.lcm (Nat.gcd d a) (Nat.gcd d b) := by
  have e : Nat.gcd (Nat.gcd d a) (Nat.gcd d b) = Nat.gcd d (Nat.gcd a b) := by
    apply Nat.dvd_antisymm
    · refine Nat.dvd_gcd ?_ (Nat.dvd_gcd ?_ ?_)
      · exact Nat.dvd_trans (Nat.gcd_dvd_left _ _) (Nat.gcd_dvd_left _ _)
      · exact Nat.dvd_trans (Nat.gcd_dvd_left _ _) (Nat.gcd_dvd_right _ _)
      · exact Nat.dvd_trans (Nat.gcd_dvd_right _ _) (Nat.gcd_dvd_right _ _)
    · refine Nat.dvd_gcd (Nat.dvd_gcd ?_ ?_) (Nat.dvd_gcd ?_ ?_)
      · exact Nat.gcd_dvd_left _ _
      · exact Nat.dvd_trans (Nat.gcd_dvd_right _ _) (Nat.gcd_dvd_left _ _)
      · exact Nat.gcd_dvd_left _ _
      · exact Nat.dvd_trans (Nat.gcd_dvd_right _ _) (Nat.gcd_dvd_right _ _)
  have g0 : 0 < Nat.gcd d (Nat.gcd a b) := Nat.gcd_pos_of_pos_left _ h0
  have ga : Nat.gcd d (Nat.gcd a b) ∣ a := Nat.dvd_trans (Nat.gcd_dvd_right _ _) (Nat.gcd_dvd_left _ _)
  have k1 : d * Nat.gcd d (Nat.gcd a b) ∣ d * Nat.gcd d b := by
    refine Nat.mul_dvd_mul_left _ (Nat.dvd_gcd (Nat.gcd_dvd_left _ _) ?_)
    exact Nat.dvd_trans (Nat.gcd_dvd_right _ _) (Nat.gcd_dvd_right _ _)
  have k2 : d * Nat.gcd d (Nat.gcd a b) ∣ a * Nat.gcd d b := by
    have e2 : a * Nat.gcd d b = Nat.gcd (a * d) (a * b) := (Nat.gcd_mul_left a d b).symm
    rw [e2]
    refine Nat.dvd_gcd ?_ ?_
    · rw [Nat.mul_comm a d]; exact Nat.mul_dvd_mul_left _ ga
    · rw [← Nat.gcd_mul_lcm a b, Nat.mul_comm d]
      exact Nat.mul_dvd_mul (Nat.gcd_dvd_right _ _) h
  have k3 : d * Nat.gcd d (Nat.gcd a b) ∣ Nat.gcd d a * Nat.gcd d b := by
    have e3 : Nat.gcd d a * Nat.gcd d b = Nat.gcd (d * Nat.gcd d b) (a * Nat.gcd d b) := (Nat.gcd_mul_right d (Nat.gcd d b) a).symm
    rw [e3]
    exact Nat.dvd_gcd k1 k2
  have e4 : Nat.gcd d a * Nat.gcd d b = Nat.gcd d (Nat.gcd a b) * Nat.lcm (Nat.gcd d a) (Nat.gcd d b) := by
    rw [← e, Nat.gcd_mul_lcm]
  rw [e4, Nat.mul_comm d] at k3
  exact Nat.dvd_of_mul_dvd_mul_left g0 k3
theorem gcd_lcm_dvd {a b c n : Nat} (hc : 0 < c) (h1 : Nat.gcd a c ∣ n) (h2 : Nat.gcd b c ∣ n) : Nat.gcd (Nat.lcm a b) c ∣ n := by
  have d0 : 0 < Nat.gcd (Nat.lcm a b) c := Nat.gcd_pos_of_pos_right _ hc
  refine Nat.dvd_trans (dvd_lcm_gcds d0 (Nat.gcd_dvd_left _ _)) (Nat.lcm_dvd ?_ ?_)
  · refine Nat.dvd_trans (Nat.dvd_gcd (Nat.gcd_dvd_right _ _) ?_) h1
    exact Nat.dvd_trans (Nat.gcd_dvd_left _ _) (Nat.gcd_dvd_right _ _)
  · refine Nat.dvd_trans (Nat.dvd_gcd (Nat.gcd_dvd_right _ _) ?_) h2
    exact Nat.dvd_trans (Nat.gcd_dvd_left _ _) (Nat.gcd_dvd_right _ _)
/-! the turned number -/
def egN : Nat → Int → Int → Int → Int → Int
  | 0, _, _, _, no => no
  | n + 1, hi, lo, be, no => if 1 < lo then egN n lo (hi - hi / lo * lo) no (be - hi / lo * no) else no
theorem sub_mod (hi lo : Int) : hi - hi / lo * lo = hi % lo := by
  have := Int.emod_add_mul_ediv hi lo
  rw [Int.mul_comm] at this
  omega
theorem egN_ok {m a : Int} : ∀ (n : Nat) (hi lo be no : Int), 0 ≤ lo → lo ≤ n → 1 < hi → Int.gcd hi lo = 1 → m ∣ hi - be * a → m ∣ lo - no * a → m ∣ 1 - egN n hi lo be no * a := by
  intro n
  induction n with
  | zero =>
    intro hi lo be no h0 h1 h2 hg _ _
    have : lo = 0 := by omega
    subst this
    rw [Int.gcd_zero_right] at hg
    omega
  | succ n ih =>
    intro hi lo be no h0 h1 h2 hg m1 m2
    unfold egN
    by_cases h : 1 < lo
    · rw [if_pos h]
      have l1 : hi % lo < lo := Int.emod_lt_of_pos _ (by omega)
      have l0 : 0 ≤ hi % lo := Int.emod_nonneg _ (by omega)
      refine ih lo _ no _ ?_ ?_ h ?_ m2 ?_
      · rw [sub_mod]; exact l0
      · rw [sub_mod]; omega
      · rw [Int.gcd_sub_mul_right_right, Int.gcd_comm]; exact hg
      · have : hi - hi / lo * lo - (be - hi / lo * no) * a = (hi - be * a) - hi / lo * (lo - no * a) := by
          rw [Int.sub_mul, Int.mul_sub, Int.mul_assoc]; omega
        rw [this]
        exact Int.dvd_sub m1 (Int.dvd_trans m2 (Int.dvd_mul_left _ _))
    · rw [if_neg h]
      have : lo = 1 := by
        rcases Int.lt_or_le lo 1 with q | q
        · have : lo = 0 := by omega
          subst this
          rw [Int.gcd_zero_right] at hg
          omega
        · omega
      rw [this] at m2
      exact m2
def invV (a m : Int) : Int := egN m.toNat m (a % m) 0 1 % m
theorem invV_ok {a m : Int} (h : 0 < m) (hg : Int.gcd a m = 1) : m ∣ 1 - invV a m * a := by
  unfold invV
  by_cases h1 : 1 < m
  · have key : m ∣ 1 - egN m.toNat m (a % m) 0 1 * a := by
      refine egN_ok m.toNat m (a % m) 0 1 (Int.emod_nonneg _ (by omega)) ?_ h1 ?_ ?_ ?_
      · have := Int.emod_lt_of_pos a h; omega
      · have e := Int.gcd_sub_mul_right_right m a (a / m)
        rw [sub_mod] at e
        rw [e, Int.gcd_comm]; exact hg
      · rw [Int.zero_mul, Int.sub_zero]; exact Int.dvd_refl _
      · rw [Int.one_mul]
        have := Int.emod_add_mul_ediv a m
        exact ⟨-(a / m), by rw [Int.mul_neg]; omega⟩
    generalize egN m.toNat m (a % m) 0 1 = x at key ⊢
    have e : 1 - x % m * a = (1 - x * a) + m * (x / m) * a := by
      have := Int.emod_add_mul_ediv x m
      have e2 : x % m = x - m * (x / m) := by omega
      rw [e2, Int.sub_mul]; omega
    rw [e]
    exact Int.dvd_add key (Int.dvd_trans (Int.dvd_mul_right _ _) (Int.dvd_mul_right _ _))
  · have : m = 1 := by omega
    subst this
    exact Int.one_dvd _
end CR

namespace CR
def gI (w p : Int) : Int := (Nat.gcd w.natAbs p.natAbs : Nat)
def lcI (w p : Int) : Int := (Nat.lcm w.natAbs p.natAbs : Nat)
def nxt (d w b p : Int) : Option Int := if (b - d) % gI w p = 0 then some (d + w * ((b - d) / gI w p * invV (w / gI w p) (p / gI w p) % (p / gI w p))) else none
theorem gI_l (w p : Int) : gI w p ∣ w := Int.gcd_dvd_left w p
theorem gI_r (w p : Int) : gI w p ∣ p := Int.gcd_dvd_right w p
theorem gI_pos {w p : Int} (h : 0 < p) : 0 < gI w p := by
  have := Nat.gcd_pos_of_pos_right w.natAbs (show 0 < p.natAbs by omega)
  unfold gI
  omega
theorem lcI_eq {w p : Int} (hw : 0 < w) (hp : 0 < p) : lcI w p = w * (p / gI w p) := by
  unfold lcI gI
  obtain ⟨a, rfl⟩ := Int.eq_ofNat_of_zero_le (Int.le_of_lt hw)
  obtain ⟨b, rfl⟩ := Int.eq_ofNat_of_zero_le (Int.le_of_lt hp)
  rw [Int.natAbs_natCast, Int.natAbs_natCast, ← Int.natCast_ediv, ← Int.natCast_mul]
  congr 1
  show a * b / Nat.gcd a b = _
  exact Nat.mul_div_assoc a (Nat.gcd_dvd_right a b)
theorem lcI_l (w p : Int) : w ∣ lcI w p := Int.natAbs_dvd_natAbs.mp (by unfold lcI; rw [Int.natAbs_natCast]; exact Nat.dvd_lcm_left _ _)
theorem lcI_r (w p : Int) : p ∣ lcI w p := Int.natAbs_dvd_natAbs.mp (by unfold lcI; rw [Int.natAbs_natCast]; exact Nat.dvd_lcm_right _ _)
theorem lcI_pos {w p : Int} (hw : 0 < w) (hp : 0 < p) : 0 < lcI w p := by
  have := Nat.lcm_pos (show 0 < w.natAbs by omega) (show 0 < p.natAbs by omega)
  unfold lcI
  omega
theorem lcI_dvd {w p n : Int} (h1 : w ∣ n) (h2 : p ∣ n) : lcI w p ∣ n := by
  exact Int.natAbs_dvd_natAbs.mp (by unfold lcI; rw [Int.natAbs_natCast]; exact Nat.lcm_dvd (Int.natAbs_dvd_natAbs.mpr h1) (Int.natAbs_dvd_natAbs.mpr h2))
theorem nxt_ok {d w b p d' : Int} (hw : 0 < w) (hp : 0 < p) (hb0 : 0 ≤ b) (hb : b < p) (h0 : 0 ≤ d) (hd : d < w) (h : nxt d w b p = some d') : 0 ≤ d' ∧ d' < lcI w p ∧ w ∣ d' - d ∧ d' % p = b := by
  unfold nxt at h
  split at h
  case isFalse => cases h
  case isTrue hz =>
    have g0 := gI_pos (w := w) hp
    have e := lcI_eq hw hp
    have cop : Int.gcd (w / gI w p) (p / gI w p) = 1 := Int.gcd_ediv_gcd_ediv_gcd (by
      have := Nat.gcd_pos_of_pos_right w.natAbs (show 0 < p.natAbs by omega)
      exact this)
    obtain ⟨q, hq⟩ := gI_r w p
    obtain ⟨a, ha⟩ := gI_l w p
    obtain ⟨t, ht⟩ := Int.dvd_of_emod_eq_zero hz
    generalize gI w p = g at *
    have eq1 : p / g = q := by rw [hq]; exact Int.mul_ediv_cancel_left _ (by omega)
    have eq2 : w / g = a := by rw [ha]; exact Int.mul_ediv_cancel_left _ (by omega)
    have eq3 : (b - d) / g = t := by rw [ht]; exact Int.mul_ediv_cancel_left _ (by omega)
    rw [eq1, eq2] at cop
    rw [eq1, eq2, eq3] at h
    rw [eq1] at e
    have q0 : 0 < q := by
      rcases Int.lt_or_le 0 q with z | z
      · exact z
      · have := Int.mul_nonpos_of_nonneg_of_nonpos (Int.le_of_lt g0) z
        omega
    obtain ⟨u, hu⟩ := invV_ok q0 cop
    generalize invV a q = v at *
    have s0 : 0 ≤ t * v % q := Int.emod_nonneg _ (by omega)
    have s1 : t * v % q < q := Int.emod_lt_of_pos _ q0
    have es : t * v % q = t * v - q * (t * v / q) := by
      have := Int.emod_add_mul_ediv (t * v) q
      omega
    generalize t * v / q = r at es
    generalize hs : t * v % q = s at *
    have hd' : d + w * s = d' := Option.some.inj h
    have m1 : w * s ≤ w * (q - 1) := Int.mul_le_mul_of_nonneg_left (by omega) (by omega)
    have m2 : w * (q - 1) = w * q - w := by rw [Int.mul_sub, Int.mul_one]
    have m3 : 0 ≤ w * s := Int.mul_nonneg (by omega) s0
    refine ⟨by omega, by omega, ⟨s, by omega⟩, ?_⟩
    have key : p ∣ d' - b := by
      refine ⟨-(t * u + a * r), ?_⟩
      have k1 : w * s = g * (a * s) := by rw [ha, Int.mul_assoc]
      have k2 : a * s = t - q * (t * u) - q * (a * r) := by
        have z1 : a * (t * v) = t * (v * a) := by rw [Int.mul_comm a, Int.mul_assoc]
        have z2 : v * a = 1 - q * u := by omega
        rw [es, Int.mul_sub, z1, z2, Int.mul_sub, Int.mul_one, Int.mul_left_comm t q u, Int.mul_left_comm a q r]
      have k3 : d' - b = g * (a * s - t) := by rw [Int.mul_sub]; omega
      rw [k3, k2, hq, Int.mul_assoc]
      congr 1
      rw [Int.mul_neg, Int.mul_add]; omega
    have : d' % p = b % p := Int.emod_eq_emod_iff_emod_sub_eq_zero.mpr (Int.emod_eq_zero_of_dvd key)
    rw [this, Int.emod_eq_of_lt hb0 hb]
/-! lots of chores -/
def at0 (xs : List Int) (c : Nat) : Int := (xs[c]?).getD 0
def mdS (ps bs : List Int) : List Nat → Int → Int → Option (Int × Int)
  | [], d, w => some (d, w)
  | c :: cs, d, w => match nxt d w (at0 bs c) (at0 ps c) with
    | none => none
    | some d' => mdS ps bs cs d' (lcI w (at0 ps c))
def wOf (ps : List Int) : List Nat → Int → Int
  | [], w => w
  | c :: cs, w => wOf ps cs (lcI w (at0 ps c))
theorem mdS_app (ps bs : List Int) : ∀ (xs ys : List Nat) (d w : Int), mdS ps bs (xs ++ ys) d w = (mdS ps bs xs d w).bind fun p => mdS ps bs ys p.1 p.2
  | [], _, _, _ => rfl
  | c :: cs, ys, d, w => by
    show (match nxt d w (at0 bs c) (at0 ps c) with | none => none | some d' => mdS ps bs (cs ++ ys) d' (lcI w (at0 ps c))) = (match nxt d w (at0 bs c) (at0 ps c) with | none => none | some d' => mdS ps bs cs d' (lcI w (at0 ps c))).bind _
    cases nxt d w (at0 bs c) (at0 ps c) with
    | none => rfl
    | some d' => exact mdS_app ps bs cs ys d' _
theorem wOf_app (ps : List Int) : ∀ (xs ys : List Nat) (w : Int), wOf ps (xs ++ ys) w = wOf ps ys (wOf ps xs w)
  | [], _, _ => rfl
  | c :: cs, ys, w => wOf_app ps cs ys _
/-- right periods and beginnings, for the chores of a lot -/
def Fit (ps bs : List Int) (lot : List Nat) : Prop := ∀ c ∈ lot, 0 < at0 ps c ∧ 0 ≤ at0 bs c ∧ at0 bs c < at0 ps c
theorem Fit.tail {ps bs : List Int} {c : Nat} {cs : List Nat} (h : Fit ps bs (c :: cs)) : Fit ps bs cs := fun x hx => h x (List.mem_cons_of_mem _ hx)
theorem md_ok {ps bs : List Int} : ∀ {lot : List Nat} {d w d' w' : Int}, Fit ps bs lot → 0 < w → 0 ≤ d → d < w → mdS ps bs lot d w = some (d', w') → 0 ≤ d' ∧ d' < w' ∧ w ∣ w' ∧ w ∣ d' - d ∧ w' = wOf ps lot w ∧ ∀ c ∈ lot, at0 ps c ∣ w' ∧ d' % at0 ps c = at0 bs c
  | [], d, w, d', w', _, hw, h0, h1, h => by
    cases h
    exact ⟨h0, h1, Int.dvd_refl _, ⟨0, by omega⟩, rfl, by simp⟩
  | c :: cs, d, w, d', w', hf, hw, h0, h1, h => by
    obtain ⟨p0, b0, b1⟩ := hf c List.mem_cons_self
    have h : (match nxt d w (at0 bs c) (at0 ps c) with | none => none | some d' => mdS ps bs cs d' (lcI w (at0 ps c))) = some (d', w') := h
    cases e : nxt d w (at0 bs c) (at0 ps c) with
    | none => rw [e] at h; cases h
    | some d1 =>
      rw [e] at h
      obtain ⟨a1, a2, a3, a4⟩ := nxt_ok hw p0 b0 b1 h0 h1 e
      obtain ⟨c1, c2, c3, c4, c5, c6⟩ := md_ok hf.tail (lcI_pos hw p0) a1 a2 h
      refine ⟨c1, c2, Int.dvd_trans (lcI_l _ _) c3, ?_, c5, fun x hx => ?_⟩
      · have : d' - d = (d' - d1) + (d1 - d) := by omega
        rw [this]
        exact Int.dvd_add (Int.dvd_trans (lcI_l _ _) c4) a3
      · rcases List.mem_cons.mp hx with e2 | hx
        · subst e2
          refine ⟨Int.dvd_trans (lcI_r _ _) c3, ?_⟩
          rw [← a4]
          exact Int.emod_eq_emod_iff_emod_sub_eq_zero.mpr (Int.emod_eq_zero_of_dvd (Int.dvd_trans (lcI_r _ _) c4))
        · exact c6 x hx
/-- two chores meet -/
def meets (ps bs : List Int) (i j : Nat) : Prop := (at0 bs i - at0 bs j) % gI (at0 ps i) (at0 ps j) = 0
theorem gI_comm (a b : Int) : gI a b = gI b a := by unfold gI; rw [Nat.gcd_comm]
theorem gI_lc {a b c n : Int} (hc : 0 < c) (h1 : gI a c ∣ n) (h2 : gI b c ∣ n) : gI (lcI a b) c ∣ n := by
  have k1 : Nat.gcd a.natAbs c.natAbs ∣ n.natAbs := by
    have := Int.natAbs_dvd_natAbs.mpr h1
    unfold gI at this
    rwa [Int.natAbs_natCast] at this
  have k2 : Nat.gcd b.natAbs c.natAbs ∣ n.natAbs := by
    have := Int.natAbs_dvd_natAbs.mpr h2
    unfold gI at this
    rwa [Int.natAbs_natCast] at this
  refine Int.natAbs_dvd_natAbs.mp ?_
  unfold gI lcI
  rw [Int.natAbs_natCast, Int.natAbs_natCast]
  exact gcd_lcm_dvd (by omega) k1 k2
theorem gI_w {ps : List Int} {p n : Int} (hp : 0 < p) : ∀ {lot : List Nat} {w : Int}, gI w p ∣ n → (∀ i ∈ lot, gI (at0 ps i) p ∣ n) → gI (wOf ps lot w) p ∣ n
  | [], w, h, _ => h
  | c :: cs, w, h, hl => gI_w hp (lot := cs) (gI_lc hp h (hl c List.mem_cons_self)) fun i hi => hl i (List.mem_cons_of_mem _ hi)
theorem w_dvd {ps : List Int} {n : Int} : ∀ {lot : List Nat} {w : Int}, w ∣ n → (∀ i ∈ lot, at0 ps i ∣ n) → wOf ps lot w ∣ n
  | [], w, h, _ => h
  | c :: cs, w, h, hl => w_dvd (lot := cs) (lcI_dvd h (hl c List.mem_cons_self)) fun i hi => hl i (List.mem_cons_of_mem _ hi)
/-- where no day fits, two chores don't meet -/
theorem md_none {ps bs : List Int} : ∀ {lot pre : List Nat} {d w : Int}, Fit ps bs (pre ++ lot) → 0 < w → 0 ≤ d → d < w → w = wOf ps pre 1 → (∀ c ∈ pre, d % at0 ps c = at0 bs c) → (∀ i j : Nat, ∀ a b, (pre ++ lot)[i]? = some a → (pre ++ lot)[j]? = some b → i < j → meets ps bs b a) → mdS ps bs lot d w ≠ none
  | [], _, _, _, _, _, _, _, _, _, _ => by simp [mdS]
  | c :: cs, pre, d, w, hf, hw, h0, h1, hwe, hp, hm => by
    obtain ⟨p0, b0, b1⟩ := hf c (by simp)
    have gd : (at0 bs c - d) % gI w (at0 ps c) = 0 := by
      refine Int.emod_eq_zero_of_dvd ?_
      rw [hwe]
      refine gI_w p0 ?_ fun i hi => ?_
      · have : gI 1 (at0 ps c) = 1 := by unfold gI; simp
        rw [this]; exact Int.one_dvd _
      · obtain ⟨k, hk⟩ := List.getElem?_of_mem hi
        have hkl := (List.getElem?_eq_some_iff.mp hk).1
        have mt := hm k pre.length i c (by rw [List.getElem?_append_left hkl]; exact hk) (by rw [List.getElem?_append_right (Nat.le_refl _), Nat.sub_self]; rfl) hkl
        have m1 : gI (at0 ps i) (at0 ps c) ∣ at0 bs c - at0 bs i := by rw [gI_comm]; exact Int.dvd_of_emod_eq_zero mt
        have m2 : at0 ps i ∣ at0 bs i - d := by
          have e := hp i hi
          refine ⟨-(d / at0 ps i), ?_⟩
          have := Int.emod_add_mul_ediv d (at0 ps i)
          rw [Int.mul_neg]; omega
        have : at0 bs c - d = (at0 bs c - at0 bs i) + (at0 bs i - d) := by omega
        rw [this]
        exact Int.dvd_add m1 (Int.dvd_trans (gI_l _ _) m2)
    have e : ∃ d1, nxt d w (at0 bs c) (at0 ps c) = some d1 := by unfold nxt; rw [if_pos gd]; exact ⟨_, rfl⟩
    obtain ⟨d1, e⟩ := e
    obtain ⟨a1, a2, a3, a4⟩ := nxt_ok hw p0 b0 b1 h0 h1 e
    show (match nxt d w (at0 bs c) (at0 ps c) with | none => none | some d' => mdS ps bs cs d' (lcI w (at0 ps c))) ≠ none
    rw [e]
    have ap : pre ++ c :: cs = (pre ++ [c]) ++ cs := by simp
    rw [ap] at hf hm
    refine md_none (pre := pre ++ [c]) hf (lcI_pos hw p0) a1 a2 ?_ ?_ hm
    · rw [wOf_app, ← hwe]; rfl
    · intro x hx
      rcases List.mem_append.mp hx with hx | hx
      · rw [← hp x hx]
        refine Int.emod_eq_emod_iff_emod_sub_eq_zero.mpr (Int.emod_eq_zero_of_dvd (Int.dvd_trans ?_ a3))
        rw [hwe]
        clear hm hf e gd a1 a2 a3 a4 ap hp h0 h1 hw hwe
        have : ∀ (l : List Nat) (w : Int), (x ∈ l → at0 ps x ∣ wOf ps l w) ∧ w ∣ wOf ps l w := by
          intro l
          induction l with
          | nil => intro w; exact ⟨fun h => by simp at h, Int.dvd_refl _⟩
          | cons y ys ih =>
            intro w
            obtain ⟨k1, k2⟩ := ih (lcI w (at0 ps y))
            refine ⟨fun h => ?_, Int.dvd_trans (lcI_l _ _) k2⟩
            rcases List.mem_cons.mp h with e | h
            · subst e; exact Int.dvd_trans (lcI_r _ _) k2
            · exact k1 h
        exact (this pre 1).1 hx
      · rw [List.mem_singleton.mp hx]; exact a4
/-- a day on which all are done: all meet -/
theorem meet_of {ps bs : List Int} {x : Int} {i j : Nat} (h1 : x % at0 ps i = at0 bs i) (h2 : x % at0 ps j = at0 bs j) : meets ps bs i j := by
  refine Int.emod_eq_zero_of_dvd ?_
  have d1 : at0 ps i ∣ x - at0 bs i := ⟨x / at0 ps i, by have := Int.emod_add_mul_ediv x (at0 ps i); omega⟩
  have d2 : at0 ps j ∣ x - at0 bs j := ⟨x / at0 ps j, by have := Int.emod_add_mul_ediv x (at0 ps j); omega⟩
  have : at0 bs i - at0 bs j = (x - at0 bs j) - (x - at0 bs i) := by omega
  rw [this]
  exact Int.dvd_sub (Int.dvd_trans (gI_r _ _) d2) (Int.dvd_trans (gI_l _ _) d1)
/-- in one round there is one such day -/
theorem day_uniq {ps bs : List Int} {lot : List Nat} {x y : Int} (hx : ∀ c ∈ lot, x % at0 ps c = at0 bs c) (hy : ∀ c ∈ lot, y % at0 ps c = at0 bs c) (x0 : 0 ≤ x) (x1 : x < wOf ps lot 1) (y0 : 0 ≤ y) (y1 : y < wOf ps lot 1) : x = y := by
  have d : wOf ps lot 1 ∣ x - y := w_dvd (Int.one_dvd _) fun c hc => by
    have := Int.emod_eq_emod_iff_emod_sub_eq_zero.mp ((hx c hc).trans (hy c hc).symm)
    exact Int.dvd_of_emod_eq_zero this
  obtain ⟨k, hk⟩ := d
  generalize wOf ps lot 1 = w at *
  rcases Int.lt_trichotomy k 0 with z | z | z
  · have : w * k ≤ w * (-1) := Int.mul_le_mul_of_nonneg_left (by omega) (by omega)
    omega
  · subst z; omega
  · have : w * 1 ≤ w * k := Int.mul_le_mul_of_nonneg_left (by omega) (by omega)
    omega
end CR

set_option maxRecDepth 100000
namespace GL
open PySem PySem.Spec PyProof.Rows L2 GM
def topS (i : Nat) : Stmt := PySem.Challenge.pw_nogapmissed_k32_covers.main.body.getD i (.Pass ⟨0, 0, 0, 0⟩)
def stOf (sc : Scope) (x : Str) : Bool := match sc.names.lookup x with | some .local => true | some .cell => true | _ => false
theorem stOf_loc {sc : Scope} {x : Str} (h : stOf sc x = true) : Loc sc x := by
  unfold stOf at h
  split at h
  · exact .inl (by assumption)
  · exact .inr (by assumption)
  · cases h
/-! _law_vat(&script); slots: 0 script, 1 digits, 2 stirred, 3 at, 4 cell, 5 lap; calls:  -/
def s_l_vat : Stmt := topS 16
def n_l_vat : List Str := ["script", "digits", "stirred", "at", "cell", "lap"]
def b_l_vat : List GM.S := [.asg (.nm 1) (.lst []),
  .asg (.nm 2) (.con (.int 32003)),
  .for_ (.nm 3) (.irng [.bi .min2 [.slen 0, .con (.int 63)]]) [.asg (.nm 4) (.bi .abs [.bi .int1 [.sidx 0 (.var 3)]]), .asg (.nm 2) (.bin .mod (.bi .int1 [.bin .add (.bin .add (.bin .add (.bin .mul (.var 2) (.con (.int 40014))) (.bin .mod (.var 4) (.con (.int 2147482739)))) (.bin .mul (.con (.int 11)) (.var 3))) (.con (.int 5))]) (.con (.int 2147483579))), .ite (.cmp .ge (.var 4) (.bin .pow (.con (.int 10)) (.con (.int 18)))) [.asg (.nm 4) (.bin .mod (.var 4) (.bin .shl (.con (.int 1)) (.con (.int 1300)))), .for_ (.nm 5) (.irng [.con (.int 110)]) [.ite (.cmp .eq (.var 4) (.con (.int 0))) [.brk] [], .exp (.mth .append 1 [.bin .mod (.bi .int1 [.var 4]) (.con (.int 6007))]), .asg (.nm 4) (.bin .fdiv (.var 4) (.con (.int 6007)))]] []],
  .ret (.jar 1 (.bin .add (.var 2) (.con (.int 2))))]
def c_l_vat : CC := { N := n_l_vat, sc := defScope s_l_vat, st := stOf (defScope s_l_vat), fns := [], pars := fun _ => [], cons := [], gcd := false, lcm := false, pats := [], excs := [], cats := [], top := true }
theorem sc_l_vat : FnScope n_l_vat ["script"] (defScope s_l_vat) := ⟨rfl, rfl, rfl, by decide +kernel, rfl, by decide +kernel, by decide +kernel⟩
theorem ck_l_vat : chkSs (chkS 60 c_l_vat) b_l_vat (defBody s_l_vat) = true := by decide +kernel
/-! _law_dip(&vat, many); slots: 0 vat, 1 many; calls:  -/
def s_l_dip : Stmt := topS 17
def n_l_dip : List Str := ["vat", "many"]
def b_l_dip : List GM.S := [.jdip 0 1,
  .seti 0 (.con (.int 1)) (.bin .mod (.bi .int1 [.bin .mul (.idx (.var 0) (.con (.int 1))) (.con (.int 30269))]) (.con (.int 2147483563))),
  .ret (.bin .mod (.bi .int1 [.bin .fdiv (.idx (.var 0) (.con (.int 1))) (.con (.int 61))]) (.var 1))]
def c_l_dip : CC := { N := n_l_dip, sc := defScope s_l_dip, st := stOf (defScope s_l_dip), fns := [], pars := fun _ => [], cons := [], gcd := false, lcm := false, pats := [], excs := [], cats := [], top := true }
theorem sc_l_dip : FnScope n_l_dip ["vat", "many"] (defScope s_l_dip) := ⟨rfl, rfl, rfl, by decide +kernel, rfl, by decide +kernel, by decide +kernel⟩
theorem ck_l_dip : chkSs (chkS 60 c_l_dip) b_l_dip (defBody s_l_dip) = true := by decide +kernel
/-! _law_same(told, due); slots: 0 told, 1 due, 2 todo, 3 one, 4 other, 5 at; calls:  -/
def s_l_same : Stmt := topS 20
def n_l_same : List Str := ["told", "due", "todo", "one", "other", "at"]
def b_l_same : List GM.S := [.asg (.nm 2) (.lst [.tup [.var 0, .var 1]]),
  .whl (.cmp .gt (.bi .len [.var 2]) (.con (.int 0))) [.asg (.tp [.nm 3, .nm 4]) (.mth .pop 2 []), .ite (.cmp .is_ (.var 4) (.con .none)) [.ite (.cmp .isnot (.var 3) (.con .none)) [.ret (.con (.bool false))] []] [.ite (.bi (.isi [1]) [.var 4]) [.ite (.or_ (.notv (.bi (.isi [1]) [.var 3])) (.cmp .ne (.var 3) (.var 4))) [.ret (.con (.bool false))] []] [.ite (.bi (.isi [3]) [.var 4]) [.ite (.or_ (.notv (.bi (.isi [3]) [.var 3])) (.cmp .ne (.bi .len [.var 3]) (.bi .len [.var 4]))) [.ret (.con (.bool false))] [], .exp (.mth .extend 2 [.comp (.tup [.idx (.var 3) (.var 5), .idx (.var 4) (.var 5)]) (.nm 5) (.irng [.bi .len [.var 4]]) [] [5]])] [.ite (.bi (.isi [2]) [.var 4]) [.ite (.or_ (.notv (.bi (.isi [2]) [.var 3])) (.cmp .ne (.var 3) (.var 4))) [.ret (.con (.bool false))] []] [.ite (.or_ (.bi (.isi [1]) [.var 3]) (.or_ (.notv (.bi (.isi [0]) [.var 3])) (.cmp .ne (.var 3) (.var 4)))) [.ret (.con (.bool false))] []]]]]],
  .ret (.con (.bool true))]
def c_l_same : CC := { N := n_l_same, sc := defScope s_l_same, st := stOf (defScope s_l_same), fns := [], pars := fun _ => [], cons := [], gcd := false, lcm := false, pats := [], excs := [], cats := [], top := true }
theorem sc_l_same : FnScope n_l_same ["told", "due"] (defScope s_l_same) := ⟨rfl, rfl, rfl, by decide +kernel, rfl, by decide +kernel, by decide +kernel⟩
theorem ck_l_same : chkSs (chkS 60 c_l_same) b_l_same (defBody s_l_same) = true := by decide +kernel
/-! _law_parted(&vat, turns, parts, most); slots: 0 vat, 1 turns, 2 parts, 3 most, 4 classes, 5 turn, 6 part, 7 at, 8 period, 9 begin, 10 lap, 11 told; calls: 0 _law_dip -/
def s_l_parted : Stmt := topS 30
def n_l_parted : List Str := ["vat", "turns", "parts", "most", "classes", "turn", "part", "at", "period", "begin", "lap", "told"]
def b_l_parted : List GM.S := [.asg (.nm 4) (.lst [.tup [.con (.int 1), .con (.int 0)]]),
  .for_ (.nm 5) (.irng [.var 1]) [.asg (.nm 6) (.idx (.var 2) (.call 0 [.refv 0, .bi .len [.var 2]])), .asg (.nm 7) (.call 0 [.refv 0, .bi .len [.var 4]]), .asg (.tp [.nm 8, .nm 9]) (.idx (.var 4) (.var 7)), .ite (.and_ (.cmp .le (.bin .sub (.bin .add (.bi .len [.var 4]) (.var 6)) (.con (.int 1))) (.con (.int 10))) (.cmp .le (.bin .mul (.var 8) (.var 6)) (.var 3))) [.exp (.mth .popAt 4 [.var 7]), .exp (.mth .extend 4 [.comp (.tup [.bin .mul (.var 8) (.var 6), .bin .add (.var 9) (.bin .mul (.var 8) (.var 10))]) (.nm 10) (.irng [.var 6]) [] [10]])] []],
  .asg (.nm 11) (.lst []),
  .whl (.cmp .gt (.bi .len [.var 4]) (.con (.int 0))) [.exp (.mth .append 11 [.mth .popAt 4 [.call 0 [.refv 0, .bi .len [.var 4]]]])],
  .ret (.var 11)]
def c_l_parted : CC := { N := n_l_parted, sc := defScope s_l_parted, st := stOf (defScope s_l_parted), fns := ["_law_dip"], pars := fun _ => [], cons := [], gcd := false, lcm := false, pats := [], excs := [], cats := [], top := true }
theorem sc_l_parted : FnScope n_l_parted ["vat", "turns", "parts", "most"] (defScope s_l_parted) := ⟨rfl, rfl, rfl, by decide +kernel, rfl, by decide +kernel, by decide +kernel⟩
theorem ck_l_parted : chkSs (chkS 60 c_l_parted) b_l_parted (defBody s_l_parted) = true := by decide +kernel
/-! do_meet(periods, beginnings, one, other); slots: 0 periods, 1 beginnings, 2 one, 3 other; calls:  -/
def s_do_meet : Stmt := topS 2
def n_do_meet : List Str := ["periods", "beginnings", "one", "other"]
def b_do_meet : List GM.S := [.ret (.cmp .eq (.bin .mod (.bin .sub (.idx (.var 1) (.var 2)) (.idx (.var 1) (.var 3))) (.bi .gcd [.idx (.var 0) (.var 2), .idx (.var 0) (.var 3)])) (.con (.int 0)))]
def c_do_meet : CC := { N := n_do_meet, sc := defScope s_do_meet, st := stOf (defScope s_do_meet), fns := [], pars := fun _ => [], cons := [], gcd := true, lcm := false, pats := [], excs := [], cats := [], top := true }
theorem sc_do_meet : FnScope n_do_meet ["periods", "beginnings", "one", "other"] (defScope s_do_meet) := ⟨rfl, rfl, rfl, by decide +kernel, rfl, by decide +kernel, by decide +kernel⟩
theorem ck_do_meet : chkSs (chkS 60 c_do_meet) b_do_meet (defBody s_do_meet) = true := by decide +kernel
/-! meeting_lots(periods, beginnings); slots: 0 periods, 1 beginnings, 2 found, 3 chore, 4 more, 5 lot, 6 other; calls: 0 do_meet -/
def s_meeting_lots : Stmt := topS 4
def n_meeting_lots : List Str := ["periods", "beginnings", "found", "chore", "more", "lot", "other"]
def b_meeting_lots : List GM.S := [.asg (.nm 2) (.lst [.tup []]),
  .for_ (.nm 3) (.irng [.bi .len [.var 0]]) [.asg (.nm 4) (.lst []), .for_ (.nm 5) (.var 2) [.ite (.cmp .eq (.bi .len [.comp (.var 6) (.nm 6) (.var 5) [.notv (.call 0 [.var 0, .var 1, .var 6, .var 3])] [6]]) (.con (.int 0))) [.exp (.mth .append 4 [.bin .add (.var 5) (.tup [.var 3])])] []], .asg (.nm 2) (.bin .add (.var 2) (.var 4))],
  .ret (.comp (.var 5) (.nm 5) (.var 2) [.cmp .gt (.bi .len [.var 5]) (.con (.int 0))] [5])]
def c_meeting_lots : CC := { N := n_meeting_lots, sc := defScope s_meeting_lots, st := stOf (defScope s_meeting_lots), fns := ["do_meet"], pars := fun _ => [], cons := [], gcd := false, lcm := false, pats := [], excs := [], cats := [], top := true }
theorem sc_meeting_lots : FnScope n_meeting_lots ["periods", "beginnings"] (defScope s_meeting_lots) := ⟨rfl, rfl, rfl, by decide +kernel, rfl, by decide +kernel, by decide +kernel⟩
theorem ck_meeting_lots : chkSs (chkS 60 c_meeting_lots) b_meeting_lots (defBody s_meeting_lots) = true := by decide +kernel
/-! most_at_once(periods, beginnings); slots: 0 periods, 1 beginnings, 2 lot; calls: 0 meeting_lots -/
def s_most_at_once : Stmt := topS 5
def n_most_at_once : List Str := ["periods", "beginnings", "lot"]
def b_most_at_once : List GM.S := [.ret (.bi .max1 [.comp (.bi .len [.var 2]) (.nm 2) (.call 0 [.var 0, .var 1]) [] [2]])]
def c_most_at_once : CC := { N := n_most_at_once, sc := defScope s_most_at_once, st := stOf (defScope s_most_at_once), fns := ["meeting_lots"], pars := fun _ => [], cons := [], gcd := false, lcm := false, pats := [], excs := [], cats := [], top := true }
theorem sc_most_at_once : FnScope n_most_at_once ["periods", "beginnings"] (defScope s_most_at_once) := ⟨rfl, rfl, rfl, by decide +kernel, rfl, by decide +kernel, by decide +kernel⟩
theorem ck_most_at_once : chkSs (chkS 60 c_most_at_once) b_most_at_once (defBody s_most_at_once) = true := by decide +kernel
/-! common_period(periods); slots: 0 periods, 1 common, 2 period; calls:  -/
def s_common_period : Stmt := topS 10
def n_common_period : List Str := ["periods", "common", "period"]
def b_common_period : List GM.S := [.asg (.nm 1) (.con (.int 1)),
  .for_ (.nm 2) (.var 0) [.asg (.nm 1) (.bi .lcm [.var 1, .var 2])],
  .ret (.var 1)]
def c_common_period : CC := { N := n_common_period, sc := defScope s_common_period, st := stOf (defScope s_common_period), fns := [], pars := fun _ => [], cons := [], gcd := false, lcm := true, pats := [], excs := [], cats := [], top := true }
theorem sc_common_period : FnScope n_common_period ["periods"] (defScope s_common_period) := ⟨rfl, rfl, rfl, by decide +kernel, rfl, by decide +kernel, by decide +kernel⟩
theorem ck_common_period : chkSs (chkS 60 c_common_period) b_common_period (defBody s_common_period) = true := by decide +kernel
/-! fraction(top, bottom); slots: 0 top, 1 bottom, 2 common; calls:  -/
def s_fraction : Stmt := topS 7
def n_fraction : List Str := ["top", "bottom", "common"]
def b_fraction : List GM.S := [.asg (.nm 2) (.bi .gcd [.var 0, .var 1]),
  .ret (.tup [.bin .fdiv (.var 0) (.var 2), .bin .fdiv (.var 1) (.var 2)])]
def c_fraction : CC := { N := n_fraction, sc := defScope s_fraction, st := stOf (defScope s_fraction), fns := [], pars := fun _ => [], cons := [], gcd := true, lcm := false, pats := [], excs := [], cats := [], top := true }
theorem sc_fraction : FnScope n_fraction ["top", "bottom"] (defScope s_fraction) := ⟨rfl, rfl, rfl, by decide +kernel, rfl, by decide +kernel, by decide +kernel⟩
theorem ck_fraction : chkSs (chkS 60 c_fraction) b_fraction (defBody s_fraction) = true := by decide +kernel
/-! idle_share(periods, beginnings); slots: 0 periods, 1 beginnings, 2 whole, 3 many, 4 lot, 5 common, 6 chore, 7 part; calls: 0 common_period, 1 meeting_lots, 2 fraction -/
def s_idle_share : Stmt := topS 12
def n_idle_share : List Str := ["periods", "beginnings", "whole", "many", "lot", "common", "chore", "part"]
def b_idle_share : List GM.S := [.asg (.nm 2) (.call 0 [.var 0]),
  .asg (.nm 3) (.var 2),
  .for_ (.nm 4) (.call 1 [.var 0, .var 1]) [.asg (.nm 5) (.con (.int 1)), .for_ (.nm 6) (.var 4) [.asg (.nm 5) (.bi .lcm [.var 5, .idx (.var 0) (.var 6)])], .asg (.nm 7) (.bin .fdiv (.var 2) (.var 5)), .asg (.nm 3) (.ife (.cmp .eq (.bin .mod (.bi .len [.var 4]) (.con (.int 2))) (.con (.int 1))) (.bin .sub (.var 3) (.var 7)) (.bin .add (.var 3) (.var 7)))],
  .ret (.call 2 [.var 3, .var 2])]
def c_idle_share : CC := { N := n_idle_share, sc := defScope s_idle_share, st := stOf (defScope s_idle_share), fns := ["common_period", "meeting_lots", "fraction"], pars := fun _ => [], cons := [], gcd := false, lcm := true, pats := [], excs := [], cats := [], top := true }
theorem sc_idle_share : FnScope n_idle_share ["periods", "beginnings"] (defScope s_idle_share) := ⟨rfl, rfl, rfl, by decide +kernel, rfl, by decide +kernel, by decide +kernel⟩
theorem ck_idle_share : chkSs (chkS 60 c_idle_share) b_idle_share (defBody s_idle_share) = true := by decide +kernel
/-! is_exact_cover(periods, beginnings); slots: 0 periods, 1 beginnings; calls: 0 idle_share, 1 most_at_once -/
def s_is_exact_cover : Stmt := topS 14
def n_is_exact_cover : List Str := ["periods", "beginnings"]
def b_is_exact_cover : List GM.S := [.ret (.and_ (.cmp .eq (.call 1 [.var 0, .var 1]) (.con (.int 1))) (.cmp .eq (.call 0 [.var 0, .var 1]) (.tup [.con (.int 0), .con (.int 1)])))]
def c_is_exact_cover : CC := { N := n_is_exact_cover, sc := defScope s_is_exact_cover, st := stOf (defScope s_is_exact_cover), fns := ["idle_share", "most_at_once"], pars := fun _ => [], cons := [], gcd := false, lcm := false, pats := [], excs := [], cats := [], top := true }
theorem sc_is_exact_cover : FnScope n_is_exact_cover ["periods", "beginnings"] (defScope s_is_exact_cover) := ⟨rfl, rfl, rfl, by decide +kernel, rfl, by decide +kernel, by decide +kernel⟩
theorem ck_is_exact_cover : chkSs (chkS 60 c_is_exact_cover) b_is_exact_cover (defBody s_is_exact_cover) = true := by decide +kernel
/-! _law_gcd(one, other); slots: 0 one, 1 other; calls:  -/
def s_l_gcd : Stmt := topS 21
def n_l_gcd : List Str := ["one", "other"]
def b_l_gcd : List GM.S := [.whl (.cmp .ne (.var 1) (.con (.int 0))) [.par 0 1 (.var 1) (.bin .mod (.bi .int1 [.var 0]) (.var 1))],
  .ret (.var 0)]
def c_l_gcd : CC := { N := n_l_gcd, sc := defScope s_l_gcd, st := stOf (defScope s_l_gcd), fns := [], pars := fun _ => [], cons := [], gcd := false, lcm := false, pats := [], excs := [], cats := [], top := true }
theorem sc_l_gcd : FnScope n_l_gcd ["one", "other"] (defScope s_l_gcd) := ⟨rfl, rfl, rfl, by decide +kernel, rfl, by decide +kernel, by decide +kernel⟩
theorem ck_l_gcd : chkSs (chkS 60 c_l_gcd) b_l_gcd (defBody s_l_gcd) = true := by decide +kernel
/-! _law_common(periods); slots: 0 periods, 1 last, 2 period; calls: 0 _law_gcd -/
def s_l_common : Stmt := topS 26
def n_l_common : List Str := ["periods", "last", "period"]
def b_l_common : List GM.S := [.asg (.nm 1) (.con (.int 1)),
  .for_ (.nm 2) (.var 0) [.asg (.nm 1) (.bin .mul (.bin .fdiv (.var 1) (.call 0 [.var 1, .var 2])) (.var 2))],
  .ret (.var 1)]
def c_l_common : CC := { N := n_l_common, sc := defScope s_l_common, st := stOf (defScope s_l_common), fns := ["_law_gcd"], pars := fun _ => [], cons := [], gcd := false, lcm := false, pats := [], excs := [], cats := [], top := true }
theorem sc_l_common : FnScope n_l_common ["periods"] (defScope s_l_common) := ⟨rfl, rfl, rfl, by decide +kernel, rfl, by decide +kernel, by decide +kernel⟩
theorem ck_l_common : chkSs (chkS 60 c_l_common) b_l_common (defBody s_l_common) = true := by decide +kernel
/-! _law_agrees(periods, beginnings, one, other); slots: 0 periods, 1 beginnings, 2 one, 3 other; calls: 0 _law_gcd -/
def s_l_agrees : Stmt := topS 22
def n_l_agrees : List Str := ["periods", "beginnings", "one", "other"]
def b_l_agrees : List GM.S := [.ret (.cmp .eq (.bin .mod (.bi .int1 [.bin .sub (.idx (.var 1) (.var 2)) (.idx (.var 1) (.var 3))]) (.call 0 [.idx (.var 0) (.var 2), .idx (.var 0) (.var 3)])) (.con (.int 0)))]
def c_l_agrees : CC := { N := n_l_agrees, sc := defScope s_l_agrees, st := stOf (defScope s_l_agrees), fns := ["_law_gcd"], pars := fun _ => [], cons := [], gcd := false, lcm := false, pats := [], excs := [], cats := [], top := true }
theorem sc_l_agrees : FnScope n_l_agrees ["periods", "beginnings", "one", "other"] (defScope s_l_agrees) := ⟨rfl, rfl, rfl, by decide +kernel, rfl, by decide +kernel, by decide +kernel⟩
theorem ck_l_agrees : chkSs (chkS 60 c_l_agrees) b_l_agrees (defBody s_l_agrees) = true := by decide +kernel
/-! _law_exact(periods, beginnings); slots: 0 periods, 1 beginnings, 2 whole, 3 period, 4 one, 5 other; calls: 0 _law_common, 1 _law_agrees -/
def s_l_exact : Stmt := topS 28
def n_l_exact : List Str := ["periods", "beginnings", "whole", "period", "one", "other"]
def b_l_exact : List GM.S := [.asg (.nm 2) (.call 0 [.var 0]),
  .ite (.cmp .ne (.bi .sum [.comp (.bin .fdiv (.var 2) (.var 3)) (.nm 3) (.var 0) [] [3]]) (.var 2)) [.ret (.con (.bool false))] [],
  .for_ (.nm 4) (.irng [.bi .len [.var 0]]) [.for_ (.nm 5) (.irng [.var 4]) [.ite (.call 1 [.var 0, .var 1, .var 4, .var 5]) [.ret (.con (.bool false))] []]],
  .ret (.con (.bool true))]
def c_l_exact : CC := { N := n_l_exact, sc := defScope s_l_exact, st := stOf (defScope s_l_exact), fns := ["_law_common", "_law_agrees"], pars := fun _ => [], cons := [], gcd := false, lcm := false, pats := [], excs := [], cats := [], top := true }
theorem sc_l_exact : FnScope n_l_exact ["periods", "beginnings"] (defScope s_l_exact) := ⟨rfl, rfl, rfl, by decide +kernel, rfl, by decide +kernel, by decide +kernel⟩
theorem ck_l_exact : chkSs (chkS 60 c_l_exact) b_l_exact (defBody s_l_exact) = true := by decide +kernel
/-! _law_fraction(top, bottom); slots: 0 top, 1 bottom, 2 common; calls: 0 _law_gcd -/
def s_l_fraction : Stmt := topS 25
def n_l_fraction : List Str := ["top", "bottom", "common"]
def b_l_fraction : List GM.S := [.asg (.nm 2) (.bi .max2 [.con (.int 1), .call 0 [.var 1, .bi .abs [.var 0]]]),
  .ret (.tup [.bin .fdiv (.var 0) (.var 2), .bin .fdiv (.var 1) (.var 2)])]
def c_l_fraction : CC := { N := n_l_fraction, sc := defScope s_l_fraction, st := stOf (defScope s_l_fraction), fns := ["_law_gcd"], pars := fun _ => [], cons := [], gcd := false, lcm := false, pats := [], excs := [], cats := [], top := true }
theorem sc_l_fraction : FnScope n_l_fraction ["top", "bottom"] (defScope s_l_fraction) := ⟨rfl, rfl, rfl, by decide +kernel, rfl, by decide +kernel, by decide +kernel⟩
theorem ck_l_fraction : chkSs (chkS 60 c_l_fraction) b_l_fraction (defBody s_l_fraction) = true := by decide +kernel
/-! _law_inverse(number, modulus); slots: 0 number, 1 modulus, 2 one, 3 other, 4 times, 5 next_times, 6 part; calls:  -/
def s_l_inverse : Stmt := topS 23
def n_l_inverse : List Str := ["number", "modulus", "one", "other", "times", "next_times", "part"]
def b_l_inverse : List GM.S := [.par 2 3 (.bin .mod (.bi .int1 [.var 0]) (.var 1)) (.var 1),
  .asg (.tp [.nm 4, .nm 5]) (.tup [.con (.int 1), .con (.int 0)]),
  .whl (.cmp .gt (.var 3) (.con (.int 0))) [.asg (.nm 6) (.bin .fdiv (.var 2) (.var 3)), .par 2 3 (.var 3) (.bin .sub (.var 2) (.bin .mul (.var 6) (.var 3))), .par 4 5 (.var 5) (.bin .sub (.var 4) (.bin .mul (.var 6) (.var 5)))],
  .ret (.bin .mod (.bi .int1 [.var 4]) (.var 1))]
def c_l_inverse : CC := { N := n_l_inverse, sc := defScope s_l_inverse, st := stOf (defScope s_l_inverse), fns := [], pars := fun _ => [], cons := [], gcd := false, lcm := false, pats := [], excs := [], cats := [], top := true }
theorem sc_l_inverse : FnScope n_l_inverse ["number", "modulus"] (defScope s_l_inverse) := ⟨rfl, rfl, rfl, by decide +kernel, rfl, by decide +kernel, by decide +kernel⟩
theorem ck_l_inverse : chkSs (chkS 60 c_l_inverse) b_l_inverse (defBody s_l_inverse) = true := by decide +kernel
/-! _law_meeting(periods, beginnings, lot); slots: 0 periods, 1 beginnings, 2 lot, 3 day, 4 step, 5 chore, 6 period, 7 common, 8 room; calls: 0 _law_gcd, 1 _law_inverse -/
def s_l_meeting : Stmt := topS 24
def n_l_meeting : List Str := ["periods", "beginnings", "lot", "day", "step", "chore", "period", "common", "room"]
def b_l_meeting : List GM.S := [.asg (.tp [.nm 3, .nm 4]) (.tup [.con (.int 0), .con (.int 1)]),
  .for_ (.nm 5) (.var 2) [.asg (.nm 6) (.idx (.var 0) (.var 5)), .asg (.nm 7) (.call 0 [.var 4, .var 6]), .ite (.cmp .ne (.bin .mod (.bi .int1 [.bin .sub (.idx (.var 1) (.var 5)) (.var 3)]) (.var 7)) (.con (.int 0))) [.ret (.con .none)] [], .asg (.nm 8) (.bin .fdiv (.var 6) (.var 7)), .asg (.nm 3) (.bin .add (.var 3) (.bin .mul (.var 4) (.bin .mod (.bi .int1 [.bin .mul (.bin .fdiv (.bin .sub (.idx (.var 1) (.var 5)) (.var 3)) (.var 7)) (.call 1 [.bin .fdiv (.var 4) (.var 7), .var 8])]) (.var 8)))), .asg (.nm 4) (.bin .mul (.var 4) (.var 8))],
  .ret (.lst [.var 3, .var 4])]
def c_l_meeting : CC := { N := n_l_meeting, sc := defScope s_l_meeting, st := stOf (defScope s_l_meeting), fns := ["_law_gcd", "_law_inverse"], pars := fun _ => [], cons := [], gcd := false, lcm := false, pats := [], excs := [], cats := [], top := true }
theorem sc_l_meeting : FnScope n_l_meeting ["periods", "beginnings", "lot"] (defScope s_l_meeting) := ⟨rfl, rfl, rfl, by decide +kernel, rfl, by decide +kernel, by decide +kernel⟩
theorem ck_l_meeting : chkSs (chkS 60 c_l_meeting) b_l_meeting (defBody s_l_meeting) = true := by decide +kernel
/-! _law_share(periods, beginnings); slots: 0 periods, 1 beginnings, 2 whole, 3 sums, 4 mask, 5 lot, 6 at, 7 met; calls: 0 _law_common, 1 _law_meeting, 2 _law_fraction -/
def s_l_share : Stmt := topS 27
def n_l_share : List Str := ["periods", "beginnings", "whole", "sums", "mask", "lot", "at", "met"]
def b_l_share : List GM.S := [.asg (.nm 2) (.call 0 [.var 0]),
  .asg (.nm 3) (.var 2),
  .for_ (.nm 4) (.irng [.con (.int 1), .bin .shl (.con (.int 1)) (.bi .len [.var 0])]) [.asg (.nm 5) (.comp (.var 6) (.nm 6) (.irng [.bi .len [.var 0]]) [.cmp .eq (.bin .band (.bi .int1 [.bin .shr (.var 4) (.var 6)]) (.con (.int 1))) (.con (.int 1))] [6]), .asg (.nm 7) (.call 1 [.var 0, .var 1, .var 5]), .ite (.cmp .isnot (.var 7) (.con .none)) [.asg (.nm 3) (.bin .add (.var 3) (.ife (.cmp .eq (.bin .mod (.bi .len [.var 5]) (.con (.int 2))) (.con (.int 0))) (.bin .fdiv (.var 2) (.idx (.var 7) (.con (.int 1)))) (.bin .sub (.con (.int 0)) (.bin .fdiv (.var 2) (.idx (.var 7) (.con (.int 1)))))))] []],
  .ret (.call 2 [.var 3, .var 2])]
def c_l_share : CC := { N := n_l_share, sc := defScope s_l_share, st := stOf (defScope s_l_share), fns := ["_law_common", "_law_meeting", "_law_fraction"], pars := fun _ => [], cons := [], gcd := false, lcm := false, pats := [], excs := [], cats := [], top := true }
theorem sc_l_share : FnScope n_l_share ["periods", "beginnings"] (defScope s_l_share) := ⟨rfl, rfl, rfl, by decide +kernel, rfl, by decide +kernel, by decide +kernel⟩
theorem ck_l_share : chkSs (chkS 60 c_l_share) b_l_share (defBody s_l_share) = true := by decide +kernel
/-! _law_great(&vat, most, parts); slots: 0 vat, 1 most, 2 parts, 3 classes, 4 periods, 5 one, 6 beginnings, 7 at, 8 moved, 9 fewer; calls: 0 _law_parted, 1 idle_share, 2 _law_same, 3 is_exact_cover, 4 _law_dip, 5 _law_share, 6 _law_exact -/
def s_l_great : Stmt := topS 32
def n_l_great : List Str := ["vat", "most", "parts", "classes", "periods", "one", "beginnings", "at", "moved", "fewer"]
def b_l_great : List GM.S := [.asg (.nm 3) (.call 0 [.refv 0, .con (.int 9), .var 2, .var 1]),
  .asg (.nm 4) (.bi .tup1 [.comp (.idx (.var 5) (.con (.int 0))) (.nm 5) (.var 3) [] [5]]),
  .asg (.nm 6) (.bi .tup1 [.comp (.idx (.var 5) (.con (.int 1))) (.nm 5) (.var 3) [] [5]]),
  .ite (.or_ (.cmp .isnot (.call 3 [.var 4, .var 6]) (.con (.bool true))) (.notv (.call 2 [.call 1 [.var 4, .var 6], .tup [.con (.int 0), .con (.int 1)]]))) [.ret (.con (.bool false))] [],
  .asg (.nm 7) (.call 4 [.refv 0, .bi .len [.var 4]]),
  .asg (.nm 8) (.bin .add (.bin .add (.slc (.var 6) none (some (.var 7))) (.tup [.bin .mod (.bi .int1 [.bin .add (.idx (.var 6) (.var 7)) (.con (.int 1))]) (.idx (.var 4) (.var 7))])) (.slc (.var 6) (some (.bin .add (.var 7) (.con (.int 1)))) none)),
  .ite (.or_ (.notv (.call 2 [.call 3 [.var 4, .var 8], .call 6 [.var 4, .var 8]])) (.notv (.call 2 [.call 1 [.var 4, .var 8], .call 5 [.var 4, .var 8]]))) [.ret (.con (.bool false))] [],
  .asg (.nm 9) (.lst [.bin .add (.slc (.var 4) none (some (.var 7))) (.slc (.var 4) (some (.bin .add (.var 7) (.con (.int 1)))) none), .bin .add (.slc (.var 6) none (some (.var 7))) (.slc (.var 6) (some (.bin .add (.var 7) (.con (.int 1)))) none)]),
  .ite (.cmp .eq (.bi .len [.idx (.var 9) (.con (.int 0))]) (.con (.int 0))) [.ret (.con (.bool true))] [],
  .ret (.and_ (.cmp .is_ (.call 3 [.idx (.var 9) (.con (.int 0)), .idx (.var 9) (.con (.int 1))]) (.con (.bool false))) (.call 2 [.call 1 [.idx (.var 9) (.con (.int 0)), .idx (.var 9) (.con (.int 1))], .tup [.con (.int 1), .idx (.var 4) (.var 7)]]))]
def c_l_great : CC := { N := n_l_great, sc := defScope s_l_great, st := stOf (defScope s_l_great), fns := ["_law_parted", "idle_share", "_law_same", "is_exact_cover", "_law_dip", "_law_share", "_law_exact"], pars := fun _ => [], cons := [], gcd := false, lcm := false, pats := [], excs := [], cats := [], top := true }
theorem sc_l_great : FnScope n_l_great ["vat", "most", "parts"] (defScope s_l_great) := ⟨rfl, rfl, rfl, by decide +kernel, rfl, by decide +kernel, by decide +kernel⟩
theorem ck_l_great : chkSs (chkS 60 c_l_great) b_l_great (defBody s_l_great) = true := by decide +kernel
/-! period_lot(periods, beginnings, day); slots: 0 periods, 1 beginnings, 2 day, 3 at, 4 period; calls:  -/
def s_period_lot : Stmt := topS 9
def n_period_lot : List Str := ["periods", "beginnings", "day", "at", "period"]
def b_period_lot : List GM.S := [.ret (.bi .tup1 [.comp (.var 3) (.tp [.nm 3, .nm 4]) (.ienum (.var 0)) [.cmp .eq (.bin .mod (.var 2) (.var 4)) (.idx (.var 1) (.var 3))] [3, 4]])]
def c_period_lot : CC := { N := n_period_lot, sc := defScope s_period_lot, st := stOf (defScope s_period_lot), fns := [], pars := fun _ => [], cons := [], gcd := false, lcm := false, pats := [], excs := [], cats := [], top := true }
theorem sc_period_lot : FnScope n_period_lot ["periods", "beginnings", "day"] (defScope s_period_lot) := ⟨rfl, rfl, rfl, by decide +kernel, rfl, by decide +kernel, by decide +kernel⟩
theorem ck_period_lot : chkSs (chkS 60 c_period_lot) b_period_lot (defBody s_period_lot) = true := by decide +kernel
/-! idle_day(periods, beginnings); slots: 0 periods, 1 beginnings, 2 day; calls: 0 common_period, 1 period_lot -/
def s_idle_day : Stmt := topS 13
def n_idle_day : List Str := ["periods", "beginnings", "day"]
def b_idle_day : List GM.S := [.for_ (.nm 2) (.irng [.call 0 [.var 0]]) [.ite (.cmp .eq (.bi .len [.call 1 [.var 0, .var 1, .var 2]]) (.con (.int 0))) [.ret (.var 2)] []],
  .ret (.con .none)]
def c_idle_day : CC := { N := n_idle_day, sc := defScope s_idle_day, st := stOf (defScope s_idle_day), fns := ["common_period", "period_lot"], pars := fun _ => [], cons := [], gcd := false, lcm := false, pats := [], excs := [], cats := [], top := true }
theorem sc_idle_day : FnScope n_idle_day ["periods", "beginnings"] (defScope s_idle_day) := ⟨rfl, rfl, rfl, by decide +kernel, rfl, by decide +kernel, by decide +kernel⟩
theorem ck_idle_day : chkSs (chkS 60 c_idle_day) b_idle_day (defBody s_idle_day) = true := by decide +kernel
/-! _law_by_days(periods, beginnings); slots: 0 periods, 1 beginnings, 2 whole, 3 counts, 4 at, 5 day, 6 idle, 7 one; calls: 0 _law_common, 1 _law_fraction -/
def s_l_by_days : Stmt := topS 29
def n_l_by_days : List Str := ["periods", "beginnings", "whole", "counts", "at", "day", "idle", "one"]
def b_l_by_days : List GM.S := [.asg (.nm 2) (.call 0 [.var 0]),
  .asg (.nm 3) (.comp (.bi .len [.comp (.var 4) (.nm 4) (.irng [.bi .len [.var 0]]) [.cmp .eq (.bin .mod (.bi .int1 [.var 5]) (.idx (.var 0) (.var 4))) (.idx (.var 1) (.var 4))] [4]]) (.nm 5) (.irng [.var 2]) [] [5]),
  .asg (.nm 6) (.comp (.var 5) (.nm 5) (.irng [.var 2]) [.cmp .eq (.idx (.var 3) (.var 5)) (.con (.int 0))] [5]),
  .ret (.lst [.call 1 [.bi .len [.var 6], .var 2], .ife (.cmp .gt (.bi .len [.var 6]) (.con (.int 0))) (.idx (.var 6) (.con (.int 0))) (.con .none), .cmp .eq (.bi .len [.comp (.var 7) (.nm 7) (.var 3) [.cmp .ne (.var 7) (.con (.int 1))] [7]]) (.con (.int 0))])]
def c_l_by_days : CC := { N := n_l_by_days, sc := defScope s_l_by_days, st := stOf (defScope s_l_by_days), fns := ["_law_common", "_law_fraction"], pars := fun _ => [], cons := [], gcd := false, lcm := false, pats := [], excs := [], cats := [], top := true }
theorem sc_l_by_days : FnScope n_l_by_days ["periods", "beginnings"] (defScope s_l_by_days) := ⟨rfl, rfl, rfl, by decide +kernel, rfl, by decide +kernel, by decide +kernel⟩
theorem ck_l_by_days : chkSs (chkS 60 c_l_by_days) b_l_by_days (defBody s_l_by_days) = true := by decide +kernel
/-! _law_habit(&vat); slots: 0 vat; calls: 0 _law_dip -/
def s_l_habit : Stmt := topS 18
def n_l_habit : List Str := ["vat"]
def b_l_habit : List GM.S := [.ret (.lst [.call 0 [.refv 0, .con (.int 7)], .call 0 [.refv 0, .con (.int 97)]])]
def c_l_habit : CC := { N := n_l_habit, sc := defScope s_l_habit, st := stOf (defScope s_l_habit), fns := ["_law_dip"], pars := fun _ => [], cons := [], gcd := false, lcm := false, pats := [], excs := [], cats := [], top := true }
theorem sc_l_habit : FnScope n_l_habit ["vat"] (defScope s_l_habit) := ⟨rfl, rfl, rfl, by decide +kernel, rfl, by decide +kernel, by decide +kernel⟩
theorem ck_l_habit : chkSs (chkS 60 c_l_habit) b_l_habit (defBody s_l_habit) = true := by decide +kernel
/-! _law_by(&vat, habit, many); slots: 0 vat, 1 habit, 2 many; calls: 0 _law_dip -/
def s_l_by : Stmt := topS 19
def n_l_by : List Str := ["vat", "habit", "many"]
def b_l_by : List GM.S := [.ite (.cmp .lt (.idx (.var 1) (.con (.int 0))) (.con (.int 3))) [.ret (.idx (.lst [.con (.int 0), .bin .sub (.var 2) (.con (.int 1)), .bin .mod (.bi .int1 [.idx (.var 1) (.con (.int 1))]) (.var 2)]) (.idx (.var 1) (.con (.int 0))))] [],
  .ret (.call 0 [.refv 0, .var 2])]
def c_l_by : CC := { N := n_l_by, sc := defScope s_l_by, st := stOf (defScope s_l_by), fns := ["_law_dip"], pars := fun _ => [], cons := [], gcd := false, lcm := false, pats := [], excs := [], cats := [], top := true }
theorem sc_l_by : FnScope n_l_by ["vat", "habit", "many"] (defScope s_l_by) := ⟨rfl, rfl, rfl, by decide +kernel, rfl, by decide +kernel, by decide +kernel⟩
theorem ck_l_by : chkSs (chkS 60 c_l_by) b_l_by (defBody s_l_by) = true := by decide +kernel
/-! _law_small(&vat); slots: 0 vat, 1 habit, 2 periods, 3 turn, 4 beginnings, 5 period, 6 classes, 7 at, 8 one, 9 share, 10 idle, 11 exact; calls: 0 _law_dip, 1 _law_habit, 2 _law_by, 3 _law_parted, 4 _law_by_days, 5 _law_exact, 6 _law_share, 7 idle_day, 8 _law_same, 9 idle_share, 10 is_exact_cover -/
def s_l_small : Stmt := topS 31
def n_l_small : List Str := ["vat", "habit", "periods", "turn", "beginnings", "period", "classes", "at", "one", "share", "idle", "exact"]
def b_l_small : List GM.S := [.ite (.cmp .eq (.call 0 [.refv 0, .con (.int 2)]) (.con (.int 0))) [.asg (.nm 1) (.call 1 [.refv 0]), .asg (.nm 2) (.bi .tup1 [.comp (.idx (.lst [.con (.int 2), .con (.int 3), .con (.int 4), .con (.int 6), .con (.int 5), .con (.int 1), .con (.int 12)]) (.call 2 [.refv 0, .var 1, .con (.int 7)])) (.nm 3) (.irng [.bin .add (.con (.int 1)) (.call 0 [.refv 0, .con (.int 5)])]) [] [3]]), .asg (.nm 4) (.bi .tup1 [.comp (.call 0 [.refv 0, .var 5]) (.nm 5) (.var 2) [] [5]])] [.asg (.nm 6) (.call 3 [.refv 0, .bin .add (.con (.int 1)) (.call 0 [.refv 0, .con (.int 3)]), .lst [.con (.int 2), .con (.int 3), .con (.int 2), .con (.int 4)], .con (.int 36)]), .ite (.and_ (.cmp .gt (.bi .len [.var 6]) (.con (.int 1))) (.cmp .eq (.call 0 [.refv 0, .con (.int 3)]) (.con (.int 0)))) [.exp (.mth .pop 6 [])] [], .ite (.cmp .eq (.call 0 [.refv 0, .con (.int 3)]) (.con (.int 0))) [.asg (.nm 7) (.call 0 [.refv 0, .bi .len [.var 6]]), .seti 6 (.var 7) (.tup [.idx (.idx (.var 6) (.var 7)) (.con (.int 0)), .call 0 [.refv 0, .idx (.idx (.var 6) (.var 7)) (.con (.int 0))]])] [], .asg (.nm 2) (.bi .tup1 [.comp (.idx (.var 8) (.con (.int 0))) (.nm 8) (.var 6) [] [8]]), .asg (.nm 4) (.bi .tup1 [.comp (.idx (.var 8) (.con (.int 1))) (.nm 8) (.var 6) [] [8]])],
  .asg (.tp [.nm 9, .nm 10, .nm 11]) (.call 4 [.var 2, .var 4]),
  .ite (.or_ (.cmp .ne (.var 9) (.call 6 [.var 2, .var 4])) (.cmp .ne (.var 11) (.call 5 [.var 2, .var 4]))) [.ret (.con (.bool false))] [],
  .ite (.or_ (.notv (.call 8 [.callk 9 [] [.var 4, .var 2] [1, 0], .var 9])) (.notv (.call 8 [.call 7 [.var 2, .var 4], .var 10]))) [.ret (.con (.bool false))] [],
  .ret (.call 8 [.call 10 [.var 2, .var 4], .var 11])]
def c_l_small : CC := { N := n_l_small, sc := defScope s_l_small, st := stOf (defScope s_l_small), fns := ["_law_dip", "_law_habit", "_law_by", "_law_parted", "_law_by_days", "_law_exact", "_law_share", "idle_day", "_law_same", "idle_share", "is_exact_cover"], pars := fun _ => [], cons := [], gcd := false, lcm := false, pats := [(9, 0, ["beginnings", "periods"], [1, 0])], excs := [], cats := [], top := true }
theorem sc_l_small : FnScope n_l_small ["vat"] (defScope s_l_small) := ⟨rfl, rfl, rfl, by decide +kernel, rfl, by decide +kernel, by decide +kernel⟩
theorem ck_l_small : chkSs (chkS 60 c_l_small) b_l_small (defBody s_l_small) = true := by decide +kernel
/-! law(&script); slots: 0 script, 1 vat, 2 halves, 3 far, 4 begin, 5 period; calls: 0 _law_vat, 1 _law_small, 2 _law_dip, 3 _law_great, 4 idle_day, 5 is_exact_cover, 6 idle_share, 7 _law_same, 8 _law_share -/
def s_law : Stmt := topS 33
def n_law : List Str := ["script", "vat", "halves", "far", "begin", "period"]
def b_law : List GM.S := [.asg (.nm 1) (.call 0 [.refv 0]),
  .ite (.or_ (.notv (.call 1 [.refv 1])) (.notv (.call 1 [.refv 1]))) [.ret (.con (.bool false))] [],
  .ite (.notv (.call 3 [.refv 1, .bin .pow (.con (.int 10)) (.con (.int 6)), .idx (.lst [.lst [.con (.int 2)], .lst [.con (.int 10)], .lst [.con (.int 2), .con (.int 3), .con (.int 5)], .lst [.con (.int 7), .con (.int 2)]]) (.call 2 [.refv 1, .con (.int 4)])])) [.ret (.con (.bool false))] [],
  .ite (.or_ (.notv (.call 7 [.call 6 [.tup [.con (.int 2), .con (.int 3)], .tup [.con (.int 0), .con (.int 0)]], .tup [.con (.int 1), .con (.int 3)]])) (.or_ (.cmp .isnot (.call 5 [.tup [.con (.int 2), .con (.int 3), .con (.int 6)], .tup [.con (.int 0), .con (.int 1), .con (.int 5)]]) (.con (.bool false))) (.cmp .isnot (.call 4 [.tup [.con (.int 2), .con (.int 4), .con (.int 4)], .tup [.con (.int 0), .con (.int 1), .con (.int 3)]]) (.con .none)))) [.ret (.con (.bool false))] [],
  .ite (.or_ (.notv (.call 7 [.call 6 [.tup [.con (.int 2), .con (.int 3), .con (.int 6)], .tup [.con (.int 0), .con (.int 1), .con (.int 5)]], .tup [.con (.int 1), .con (.int 6)]])) (.or_ (.cmp .isnot (.call 5 [.tup [.con (.int 2), .con (.int 4), .con (.int 8), .con (.int 8)], .tup [.con (.int 0), .con (.int 1), .con (.int 3), .con (.int 7)]]) (.con (.bool true))) (.cmp .isnot (.call 5 [.tup [.con (.int 1)], .tup [.con (.int 0)]]) (.con (.bool true))))) [.ret (.con (.bool false))] [],
  .ite (.or_ (.notv (.call 7 [.call 4 [.tup [.con (.int 2), .con (.int 4), .con (.int 8), .con (.int 16), .con (.int 32)], .tup [.con (.int 0), .con (.int 1), .con (.int 3), .con (.int 7), .con (.int 15)]], .con (.int 31)])) (.notv (.call 7 [.call 6 [.tup [.con (.int 1000000), .con (.int 999983)], .tup [.con (.int 3), .con (.int 3)]], .call 8 [.tup [.con (.int 1000000), .con (.int 999983)], .tup [.con (.int 3), .con (.int 3)]]]))) [.ret (.con (.bool false))] [],
  .ite (.cmp .ne (.call 2 [.refv 1, .con (.int 11)]) (.con (.int 4))) [.ret (.con (.bool true))] [],
  .asg (.nm 2) (.lst [.con (.int 2), .con (.int 4), .con (.int 8), .con (.int 16), .con (.int 32), .con (.int 64), .con (.int 128), .con (.int 256), .con (.int 512), .con (.int 1024)]),
  .asg (.nm 3) (.call 2 [.refv 1, .con (.int 5)]),
  .asg (.nm 4) (.bi .tup1 [.comp (.bin .sub (.bin .fdiv (.var 5) (.con (.int 2))) (.con (.int 1))) (.nm 5) (.slc (.var 2) none (some (.bin .sub (.con (.int 10)) (.var 3)))) [] [5]]),
  .ret (.call 7 [.call 4 [.bi .tup1 [.slc (.var 2) none (some (.bin .sub (.con (.int 10)) (.var 3)))], .var 4], .bin .sub (.idx (.var 2) (.bin .sub (.con (.int 9)) (.var 3))) (.con (.int 1))])]
def c_law : CC := { N := n_law, sc := defScope s_law, st := stOf (defScope s_law), fns := ["_law_vat", "_law_small", "_law_dip", "_law_great", "idle_day", "is_exact_cover", "idle_share", "_law_same", "_law_share"], pars := fun _ => [], cons := [], gcd := false, lcm := false, pats := [], excs := [], cats := [], top := true }
theorem sc_law : FnScope n_law ["script"] (defScope s_law) := ⟨rfl, rfl, rfl, by decide +kernel, rfl, by decide +kernel, by decide +kernel⟩
theorem ck_law : chkSs (chkS 60 c_law) b_law (defBody s_law) = true := by decide +kernel
end GL

set_option maxRecDepth 100000
set_option maxHeartbeats 0
namespace GL
open PySem PySem.Spec PyProof.Rows L2 GM
local macro_rules | `(tactic| walk_at "gw") => `(tactic| conv => whnf)
local macro_rules | `(tactic| walk_at "g1") => `(tactic| first | refine optP_of rfl ?_ | (apply envP_of; focus ((try simp only [GM.start, List.map, List.length, List.reduceReplicate, Nat.reduceAdd, Nat.reduceSub, List.cons_append, List.nil_append, GM.put, GM.wb, GM.putR, GM.updE, GM.putF, GM.puts, GM.wipes, GM.get, List.reverse_cons, List.reverse_nil]); exact rfl)) | (refine ckP_of ?_ ?_; exact True.intro) | (refine ckP_of ?_ ?_; exact rfl) | (refine ckP_of ?_ ?_; exact ⟨rfl, rfl⟩) | (refine ckP_of ?_ ?_; exact ⟨True.intro, True.intro⟩) | (refine ckP_of ?_ ?_; exact asg_fr (by assumption) rfl) | (refine ckP_of ?_ ?_; exact ⟨asg_fr (by assumption) rfl, True.intro⟩) | refine brP_t rfl ?_ | refine brP_f rfl ?_ | fail)
local macro_rules | `(tactic| walk_at "gm") => `(tactic| (walk_at "gw"; repeat' (walk_at "g1"; walk_at "gw")))
/-- the law's vat: a list of digits of which no more is told, a number -/
def VatOk (p : List PyData) : Prop := ∃ n : Int, p = [.dict [], .int n]
def dipS : FS := { α := List PyData × Int, args := fun a => [.r a.1, .v (.int a.2)], pre := fun a => VatOk a.1 ∧ 0 < a.2 ∧ a.2 < 1073741824, post := fun a r us' => ∃ (k : Int) (p : List PyData), r = .v (.int k) ∧ 0 ≤ k ∧ k < a.2 ∧ VatOk p ∧ us' = [.r p, .v (.int a.2)] }
theorem call_dip {o : Option FS} {p : List PyData} {m : Int} {Qx : EX → List U → Prop} {Q : U → List U → Prop} (ho : o = some dipS) (h : VatOk p) (h1 : 0 < m) (h2 : m < 1073741824) (q : ∀ k p', 0 ≤ k → k < m → VatOk p' → Q (.v (.int k)) [.r p', .v (.int m)]) : callP o [.r p, .v (.int m)] Qx Q :=
  callP_of dipS ho (p, m) rfl ⟨h, h1, h2⟩ (by rintro r us' ⟨k, p', rfl, k1, k2, k3, rfl⟩; exact q k p' k1 k2 k3) fun _ _ h => h.elim
theorem w_l_dip (p : List PyData) (m : Int) (hp : VatOk p) (h1 : 0 < m) (h2 : m < 1073741824) : wpF (gam []) 60 b_l_dip 2 [.r p, .v (.int m)] (fun r us' => ∃ (k : Int) (p : List PyData), r = .v (.int k) ∧ 0 ≤ k ∧ k < m ∧ VatOk p ∧ us' = [.r p, .v (.int m)]) (fun _ _ => False) := by
  obtain ⟨n, rfl⟩ := hp
  walk_at "gm"
  refine ckP_of h1 ?_
  walk_at "gm"
  refine ⟨fun r r0 r1 => ⟨r, _, rfl, r0, r1, ⟨n, rfl⟩, rfl⟩, ?_⟩
  walk_at "gm"
  refine ckP_of (mulC_r (by decide) (by decide)) ?_
  walk_at "gm"
  refine ckP_of (show (0 : Int) < 2147483563 by decide) ?_
  walk_at "gm"
  refine ckP_of (divC_of (by decide) (by decide)) ?_
  walk_at "gm"
  refine ckP_of h1 ?_
  walk_at "gm"
  exact ⟨_, _, rfl, Int.emod_nonneg _ (by omega), Int.emod_lt_of_pos _ h1, ⟨_, rfl⟩, rfl⟩
def vatS : FS := { α := List Int, args := fun ns => [.s ns], pre := fun _ => True, post := fun ns r us' => ∃ p, r = .o p ∧ VatOk p ∧ us' = [.s ns] }
theorem call_vat {o : Option FS} {ns : List Int} {Qx : EX → List U → Prop} {Q : U → List U → Prop} (ho : o = some vatS) (q : ∀ p, VatOk p → Q (.o p) [.s ns]) : callP o [.s ns] Qx Q :=
  callP_of vatS ho ns rfl trivial (by rintro r us' ⟨p, rfl, k, rfl⟩; exact q p k) fun _ _ h => h.elim
theorem pow18 : powC 10 18 := ⟨by decide, by decide, by decide⟩
theorem w_l_vat (ns : List Int) : wpF (gam []) 60 b_l_vat 6 [.s ns] (fun r us' => ∃ p, r = .o p ∧ VatOk p ∧ us' = [.s ns]) (fun _ _ => False) := by
  walk_at "gm"
  refine ckP_of ⟨?_, ?_⟩ ?_
  · split <;> omega
  · split <;> omega
  obtain ⟨N, hN, hN1, hN2⟩ : ∃ N : Nat, (if (63 : Int) < (ns.length : Int) then 63 else (ns.length : Int)).toNat = N ∧ N ≤ 63 ∧ N ≤ ns.length := by
    refine ⟨_, rfl, ?_, ?_⟩ <;> split <;> omega
  rw [hN]
  refine forP_inv (fun i e => ∃ (ds : List Int) (st : Int) (a b c : Option U), e = [some (.s ns), some (.o (ds.map .int)), some (.v (.int st)), a, b, c] ∧ ds.length ≤ i * 110 ∧ Fre a ∧ Fre b ∧ Fre c) ⟨[], _, none, none, none, rfl, by simp, .no, .no, .no⟩ ?_ ?_
  · rintro i x e nx hx ⟨ds, st, a, b, c, rfl, hl, ha, hb, hc⟩ hn
    obtain ⟨hi, rfl⟩ := rng_get hx
    have hx0 : ns[(0 + (i : Int)).toNat]? = some ns[i] := by
      rw [show (0 + (i : Int)).toNat = i by omega]
      exact List.getElem?_eq_getElem (by omega)
    generalize ns[i] = x at hx0
    walk_at "gm"
    refine optP_of hx0 ?_
    refine ckP_of (by omega) ?_
    walk_at "gm"
    obtain ⟨c0, hc0, hc1⟩ : ∃ c0, (if x < 0 then -x else x) = c0 ∧ 0 ≤ c0 := ⟨_, rfl, by split <;> omega⟩
    rw [hc0]
    refine ckP_of (mulC_r (by decide) (by decide)) ?_
    walk_at "gm"
    refine ckP_of (show (0 : Int) < 2147482739 by decide) ?_
    walk_at "gm"
    refine ckP_of (mulC_l (by decide) (by decide)) ?_
    walk_at "gm"
    refine ckP_of (show (0 : Int) < 2147483579 by decide) ?_
    walk_at "gm"
    refine ckP_of pow18 ?_
    walk_at "gm"
    have hT : (10 : Int) ^ (18 : Int).toNat = 1000000000000000000 := by decide +kernel
    rw [hT]
    refine brP_of (fun h => ?_) fun h => ?_
    · walk_at "gm"
      refine ckP_of ⟨by decide, by decide, by decide⟩ ?_
      walk_at "gm"
      have hB : (0 : Int) < 1 * 2 ^ (1300 : Int).toNat := by rw [Int.one_mul]; exact Int.pow_pos (by decide)
      generalize (1 : Int) * 2 ^ (1300 : Int).toNat = B at hB ⊢
      refine ckP_of hB ?_
      walk_at "gm"
      refine ckP_of ⟨by decide, by decide⟩ ?_
      walk_at "gm"
      refine forP_inv (fun j e => ∃ (ds : List Int) (c c1 : Int) (d : Option U), e = [some (.s ns), some (.o (ds.map .int)), some (.v (.int c1)), some (.v (.int (0 + (i : Int)))), some (.v (.int c)), d] ∧ ds.length ≤ i * 110 + j ∧ Fre d) ⟨ds, _, _, _, rfl, hl, hc⟩ ?_ ?_
      · rintro j x e nx2 hx ⟨ds, c, c1, d, rfl, hl, hd⟩ hn2
        obtain ⟨hj, rfl⟩ := rng_get hx
        have hj : j < 110 := hj
        walk_at "gm"
        refine brP_of (fun h => ?_) fun h => ?_
        · walk_at "gm"
          exact hn _ ⟨ds, _, _, _, _, rfl, by omega, .v _, .v _, .v _⟩
        · walk_at "gm"
          refine ckP_of (show (0 : Int) < 6007 by decide) ?_
          walk_at "gm"
          refine ckP_of (by show (ds.map PyData.int).length < LIM; rw [List.length_map]; unfold LIM; omega) ?_
          walk_at "gm"
          refine ckP_of (divC_of (by decide) (by decide)) ?_
          walk_at "gm"
          exact hn2 _ ⟨ds ++ [c % 6007], _, _, _, by rw [List.map_append]; rfl, by rw [List.length_append, List.length_singleton]; omega, .v _⟩
      · rintro e ⟨ds, c, c1, d, rfl, hl, hd⟩
        have hl : ds.length ≤ i * 110 + 110 := hl
        walk_at "gm"
        exact hn _ ⟨ds, _, _, _, _, rfl, by omega, .v _, .v _, hd⟩
    · walk_at "gm"
      exact hn _ ⟨ds, _, _, _, _, rfl, by omega, .v _, .v _, hc⟩
  · rintro e ⟨ds, st, a, b, c, rfl, hl, ha, hb, hc⟩
    walk_at "gm"
    refine optP_of (ints_some ds) ?_
    walk_at "gm"
    exact ⟨_, rfl, ⟨_, rfl⟩, rfl⟩
theorem eq_ii (x : Int) : (!PyData.eqv (.int x) (.int x)) = false := by rw [PyData.eqv]; simp
def pairAt (x : List PyData) : PyData → PyData
  | .int i => .tuple [(x[i.toNat]?).getD .none, (x[i.toNat]?).getD .none]
  | d => d
theorem pair_all (x : List PyData) : (rngI 0 x.length).map (pairAt x) = x.map fun z => PyData.tuple [z, z] := by
  apply List.ext_getElem?
  intro i
  rw [List.getElem?_map, List.getElem?_map]
  by_cases h : i < x.length
  · rw [rngI_get h, List.getElem?_eq_getElem h]
    simp [pairAt, h]
  · rw [List.getElem?_eq_none (by rw [rngI_length]; omega), List.getElem?_eq_none (by omega)]; rfl
theorem w_l_same (d : PyData) (ok : okT d = true) (sz : szD d ≤ 1000000) : wpF (gam []) 60 b_l_same 6 [.v d, .v d] (fun r us' => r = .v (.bool true) ∧ us' = [.v d, .v d]) (fun _ _ => False) := by
  walk_at "gm"
  refine whileP_inv (fun m e => ∃ (ds : List PyData) (a b c : Option U), e = [some (.v d), some (.v d), some (.o (ds.map fun x => .tuple [x, x])), a, b, c] ∧ Fre a ∧ Fre b ∧ Fre c ∧ okTs ds = true ∧ szDs ds = m ∧ szDs ds ≤ 1000000) (szDs [d]) ?_ ?_
  · exact ⟨[d], none, none, none, rfl, .no, .no, .no, by simp [okTs, ok], by simp [szDs], by simp [szDs, sz]⟩
  · rintro m e nx ⟨ds, a, b, c, rfl, ha, hb, hc, hok, hm, hle⟩ hn
    walk_at "gm"
    refine brP_of (fun h => ?_) fun h => ?_
    · have hne : ds ≠ [] := by
        rintro rfl
        have := of_decide_eq_true h
        simp at this
      obtain ⟨ms, y, rfl⟩ := List.eq_nil_or_concat ds |>.resolve_left hne
      rw [List.concat_eq_append] at *
      rw [List.map_append] at *
      rw [okTs_app] at hok
      rw [szDs_app] at hm hle
      obtain ⟨hok1, hok2⟩ := and_split hok
      have hy : okT y = true := by simpa [okTs] using hok2
      have hys : szDs [y] = szD y := by simp [szDs]
      have hy1 := szT_pos hy
      walk_at "gm"
      refine optP_of (pop_last _ _) ?_
      walk_at "gm"
      cases y with
      | none => walk_at "gm"; exact hn _ _ (by omega) ⟨ms, _, _, _, rfl, .v _, .v _, hc, hok1, rfl, by omega⟩
      | bool x =>
        walk_at "gm"
        have e : (!PyData.eqv (.bool x) (.bool x)) = false := by rw [PyData.eqv]; simp
        refine brP_f e ?_
        walk_at "gm"
        exact hn _ _ (by omega) ⟨ms, _, _, _, rfl, .v _, .v _, hc, hok1, rfl, by omega⟩
      | int x =>
        walk_at "gm"
        refine brP_f (eq_ii x) ?_
        walk_at "gm"
        exact hn _ _ (by omega) ⟨ms, _, _, _, rfl, .v _, .v _, hc, hok1, rfl, by omega⟩
      | str x =>
        have hs : PyData.canLay0 (.str x) = true := by simpa [okT] using hy
        walk_at "gm"
        refine ckP_of ⟨shpStr hs, shpStr hs⟩ ?_
        walk_at "gm"
        have e : (!PyData.eqv (.str x) (.str x)) = false := by rw [PyData.eqv]; simp
        refine brP_f e ?_
        walk_at "gm"
        exact hn _ _ (by omega) ⟨ms, _, _, _, rfl, .v _, .v _, hc, hok1, rfl, by omega⟩
      | list x => simp [okT] at hy
      | tuple x =>
        rw [okT_tup] at hy
        have hz : szD (.tuple x) = szDs x + 1 := by simp [szD]
        have hl := lenT_sz hy
        have hl1 := lenT_sz hok1
        walk_at "gm"
        refine brP_f (eq_ii _) ?_
        walk_at "gm"
        refine ckP_of ⟨by omega, by omega⟩ ?_
        walk_at "gm"
        rw [Int.toNat_natCast]
        refine ckP_of ⟨⟨plain_fr hc rfl, True.intro⟩, by rw [rngI_length]; unfold LIM; omega⟩ ?_
        refine compP_map (pairAt x) (fun z hz nx2 hn2 => ?_) ?_
        · obtain ⟨i, hz⟩ := List.getElem?_of_mem hz
          obtain ⟨hi, rfl⟩ := rng_get hz
          rw [Int.zero_add] at hn2 ⊢
          walk_at "gm"
          refine optP_of (idx_tup (by omega) (List.getElem?_eq_getElem (by omega))) ?_
          walk_at "gm"
          refine optP_of (idx_tup (by omega) (List.getElem?_eq_getElem (by omega))) ?_
          walk_at "gm"
          have e : pairAt x (.int (i : Int)) = .tuple [x[(i : Int).toNat], x[(i : Int).toNat]] := by simp [pairAt, hi]
          rw [e] at hn2
          exact hn2
        rw [pair_all]
        walk_at "gm"
        refine ckP_of ?_ ?_
        · show (ms.map fun x => PyData.tuple [x, x]).length + (x.map fun z => PyData.tuple [z, z]).length ≤ LIM
          rw [List.length_map, List.length_map]; unfold LIM; omega
        walk_at "gm"
        exact hn (szDs (ms ++ x)) _ (by rw [szDs_app]; omega) ⟨ms ++ x, _, _, _, by rw [List.map_append]; rfl, .v _, .v _, hc, by rw [okTs_app, hok1, hy]; rfl, rfl, by rw [szDs_app]; omega⟩
      | dict x => simp [okT] at hy
    · walk_at "gm"
      exact ⟨rfl, rfl⟩

/-! habits -/
def hbU (a b : Int) : U := .o [.int a, .int b]
def hbS : FS := { α := List PyData, args := fun p => [.r p], pre := fun p => VatOk p, post := fun _ r us' => ∃ (a b : Int) (p : List PyData), r = hbU a b ∧ 0 ≤ a ∧ a < 7 ∧ 0 ≤ b ∧ b < 97 ∧ VatOk p ∧ us' = [.r p] }
theorem w_l_habit (p : List PyData) (hp : VatOk p) : wpF (gam [dipS]) 60 b_l_habit 1 [.r p] (fun r us' => ∃ (a b : Int) (p : List PyData), r = hbU a b ∧ 0 ≤ a ∧ a < 7 ∧ 0 ≤ b ∧ b < 97 ∧ VatOk p ∧ us' = [.r p]) (fun _ _ => False) := by
  walk_at "gm"
  refine call_dip rfl hp (by decide) (by decide) fun a p1 a0 a1 hp1 => ?_
  walk_at "gm"
  refine call_dip rfl hp1 (by decide) (by decide) fun b p2 b0 b1 hp2 => ?_
  walk_at "gm"
  exact ⟨a, b, p2, rfl, a0, a1, b0, b1, hp2, rfl⟩
theorem call_habit {o : Option FS} {p : List PyData} {Qx : EX → List U → Prop} {Q : U → List U → Prop} (ho : o = some hbS) (h : VatOk p) (q : ∀ a b p', 0 ≤ a → a < 7 → 0 ≤ b → b < 97 → VatOk p' → Q (hbU a b) [.r p']) : callP o [.r p] Qx Q :=
  callP_of hbS ho p rfl h (by rintro r us' ⟨a, b, p', rfl, k1, k2, k3, k4, k5, rfl⟩; exact q a b p' k1 k2 k3 k4 k5) fun _ _ h => h.elim
def byS : FS := { α := List PyData × Int × Int × Int, args := fun a => [.r a.1, .v (.list [.int a.2.1, .int a.2.2.1]), .v (.int a.2.2.2)], pre := fun a => VatOk a.1 ∧ 0 ≤ a.2.1 ∧ 0 < a.2.2.2 ∧ a.2.2.2 < 1073741824, post := fun a r us' => ∃ (k : Int) (p : List PyData), r = .v (.int k) ∧ 0 ≤ k ∧ k < a.2.2.2 ∧ VatOk p ∧ us' = [.r p, .v (.list [.int a.2.1, .int a.2.2.1]), .v (.int a.2.2.2)] }
theorem w_l_by (p : List PyData) (a b m : Int) (hp : VatOk p) (ha : 0 ≤ a) (hm : 0 < m) (hm2 : m < 1073741824) : wpF (gam [dipS]) 60 b_l_by 3 [.r p, .v (.list [.int a, .int b]), .v (.int m)] (fun r us' => ∃ (k : Int) (p : List PyData), r = .v (.int k) ∧ 0 ≤ k ∧ k < m ∧ VatOk p ∧ us' = [.r p, .v (.list [.int a, .int b]), .v (.int m)]) (fun _ _ => False) := by
  walk_at "gm"
  refine brP_of (fun h => ?_) fun h => ?_
  · have h : a < 3 := of_decide_eq_true h
    walk_at "gm"
    refine ckP_of hm ?_
    walk_at "gm"
    have hb1 := Int.emod_nonneg b (show m ≠ 0 by omega)
    have hb2 := Int.emod_lt_of_pos b hm
    obtain ⟨x, ex, hx⟩ := pick_list (P := fun d => ∃ k : Int, d = .int k ∧ 0 ≤ k ∧ k < m) (xs := [.int 0, .int (m - 1), .int (b % m)]) ha h (fun x hx => by
      simp only [List.mem_cons, List.not_mem_nil, or_false] at hx
      rcases hx with rfl | rfl | rfl
      · exact ⟨_, rfl, by omega, by omega⟩
      · exact ⟨_, rfl, by omega, by omega⟩
      · exact ⟨_, rfl, by omega, by omega⟩)
    obtain ⟨k, rfl, k0, k1⟩ := hx
    refine optP_of ex ?_
    walk_at "gm"
    exact ⟨k, p, rfl, k0, k1, hp, rfl⟩
  · walk_at "gm"
    refine call_dip rfl hp hm hm2 fun k p1 k0 k1 hp1 => ?_
    walk_at "gm"
    exact ⟨k, p1, rfl, k0, k1, hp1, rfl⟩
theorem call_by {o : Option FS} {p : List PyData} {a b m : Int} {Qx : EX → List U → Prop} {Q : U → List U → Prop} (ho : o = some byS) (h : VatOk p) (ha : 0 ≤ a) (hm : 0 < m) (hm2 : m < 1073741824) (q : ∀ k p', 0 ≤ k → k < m → VatOk p' → Q (.v (.int k)) [.r p', .v (.list [.int a, .int b]), .v (.int m)]) : callP o [.r p, .v (.list [.int a, .int b]), .v (.int m)] Qx Q :=
  callP_of byS ho (p, a, b, m) rfl ⟨h, ha, hm, hm2⟩ (by rintro r us' ⟨k, p', rfl, k1, k2, k3, rfl⟩; exact q k p' k1 k2 k3) fun _ _ h => h.elim
end GL

set_option maxRecDepth 100000
set_option maxHeartbeats 0
namespace GL
open PySem PySem.Spec PyProof.Rows L2 GM
local macro_rules | `(tactic| walk_at "gw") => `(tactic| conv => whnf)
local macro_rules | `(tactic| walk_at "g1") => `(tactic| first | refine optP_of rfl ?_ | (apply envP_of; focus ((try simp only [GM.start, List.map, List.length, List.reduceReplicate, Nat.reduceAdd, Nat.reduceSub, List.cons_append, List.nil_append, GM.put, GM.wb, GM.putR, GM.updE, GM.putF, GM.puts, GM.wipes, GM.get, List.reverse_cons, List.reverse_nil]); exact rfl)) | (refine ckP_of ?_ ?_; exact True.intro) | (refine ckP_of ?_ ?_; exact rfl) | (refine ckP_of ?_ ?_; exact ⟨rfl, rfl⟩) | (refine ckP_of ?_ ?_; exact ⟨True.intro, True.intro⟩) | (refine ckP_of ?_ ?_; exact asg_fr (by assumption) rfl) | (refine ckP_of ?_ ?_; exact ⟨asg_fr (by assumption) rfl, True.intro⟩) | refine brP_t rfl ?_ | refine brP_f rfl ?_ | fail)
local macro_rules | `(tactic| walk_at "gm") => `(tactic| (walk_at "gw"; repeat' (walk_at "g1"; walk_at "gw")))
open CR
def gU (gs : List Int) : PyData := .tuple (gs.map .int)
def nI (n : Nat) : PyData := .int n
def lU (lot : List Nat) : PyData := .tuple (lot.map nI)
structure PsOk (ps : List Int) : Prop where
  le : ps.length ≤ 12
  all : ∀ p ∈ ps, 1 ≤ p ∧ p ≤ 1000000
theorem at_get {xs : List Int} {c : Nat} (h : c < xs.length) : xs[c]? = some (at0 xs c) := by
  unfold at0
  rw [List.getElem?_eq_getElem h]; rfl
theorem ixU {xs : List Int} {c : Nat} (h : c < xs.length) : idxD (gU xs) (.int c) = some (.int (at0 xs c)) := by
  refine idx_tup (by omega) ?_
  rw [List.getElem?_map, show ((c : Int)).toNat = c by omega, at_get h]; rfl
theorem PsOk.at0 {ps : List Int} (h : PsOk ps) {c : Nat} (hc : c < ps.length) : 1 ≤ CR.at0 ps c ∧ CR.at0 ps c ≤ 1000000 := h.all _ (List.mem_of_getElem? (at_get hc))
theorem take_get {α : Type} {xs : List α} {i : Nat} {x : α} (h : xs[i]? = some x) : xs.take (i + 1) = xs.take i ++ [x] := by rw [List.take_add_one, h]; rfl
theorem asg_b {env : GM.Env} {i : Nat} {b : Option U} (h : Fre b ∨ ∃ l, b = some (.o l)) (g : GM.get env i = b := by rfl) : asgOk env i := by
  rcases h with h | ⟨l, h⟩
  · exact asg_fr h g
  · unfold asgOk
    rw [g, h]
    exact True.intro
/-! two chores -/
instance (ps bs : List Int) (i j : Nat) : Decidable (meets ps bs i j) := by unfold meets; infer_instance
def mtB (ps bs : List Int) (i j : Nat) : Bool := decide (meets ps bs i j)
def mtU (a : List Int × List Int × Nat × Nat) : List U := [.v (gU a.1), .v (gU a.2.1), .v (.int a.2.2.1), .v (.int a.2.2.2)]
def mtOk (a : List Int × List Int × Nat × Nat) : Prop := PsOk a.1 ∧ a.2.1.length ≤ a.1.length ∧ a.2.2.1 < a.2.1.length ∧ a.2.2.2 < a.2.1.length
def mtS : FS := valS mtU mtOk (fun a => .bool (mtB a.1 a.2.1 a.2.2.1 a.2.2.2))
theorem call_mt {o : Option FS} {ps bs : List Int} {i j : Nat} {Qx : EX → List U → Prop} {Q : U → List U → Prop} (ho : o = some mtS) (h : PsOk ps) (hl : bs.length ≤ ps.length) (hi : i < bs.length) (hj : j < bs.length) (q : Q (.v (.bool (mtB ps bs i j))) [.v (gU ps), .v (gU bs), .v (.int i), .v (.int j)]) : callP o [.v (gU ps), .v (gU bs), .v (.int i), .v (.int j)] Qx Q :=
  call_val (args := mtU) ho (ps, bs, i, j) rfl ⟨h, hl, hi, hj⟩ q
theorem w_do_meet (ps bs : List Int) (i j : Nat) (hp : PsOk ps) (hl : bs.length ≤ ps.length) (hib : i < bs.length) (hjb : j < bs.length) : wpF (gam []) 60 b_do_meet 4 [.v (gU ps), .v (gU bs), .v (.int i), .v (.int j)] (fun r us' => r = .v (.bool (mtB ps bs i j)) ∧ us' = [.v (gU ps), .v (gU bs), .v (.int i), .v (.int j)]) (fun _ _ => False) := by
  have hi : i < ps.length := by omega
  have hj : j < ps.length := by omega
  have p0 := hp.at0 hj
  walk_at "gm"
  refine optP_of (ixU hib) ?_
  walk_at "gm"
  refine optP_of (ixU hjb) ?_
  walk_at "gm"
  refine optP_of (ixU hi) ?_
  walk_at "gm"
  refine optP_of (ixU hj) ?_
  walk_at "gm"
  refine ckP_of (gI_pos (show 0 < at0 ps j by omega)) ?_
  walk_at "gm"
  rw [eqv_int]
  exact ⟨rfl, rfl⟩
/-! lots that meet two by two -/
def okB (P : Nat → Nat → Bool) (c : Nat) (l : List Nat) : Bool := l.all fun o => P o c
def addC (P : Nat → Nat → Bool) (ls : List (List Nat)) (c : Nat) : List (List Nat) := ls ++ (ls.filter (okB P c)).map (· ++ [c])
def lotsF (P : Nat → Nat → Bool) (near : List Nat) : List (List Nat) := near.foldl (addC P) [[]]
theorem lotsF_snoc (P : Nat → Nat → Bool) (near : List Nat) (c : Nat) : lotsF P (near ++ [c]) = addC P (lotsF P near) c := by
  unfold lotsF
  rw [List.foldl_append]; rfl
theorem snoc_ind {α : Type} {C : List α → Prop} (h0 : C []) (hs : ∀ xs x, C xs → C (xs ++ [x])) : ∀ xs, C xs := by
  intro xs
  have : ∀ n (xs : List α), xs.length = n → C xs := by
    intro n
    induction n with
    | zero => intro xs h; rw [List.eq_nil_of_length_eq_zero h]; exact h0
    | succ n ih =>
      intro xs h
      rcases List.eq_nil_or_concat xs with rfl | ⟨ys, y, rfl⟩
      · simp at h
      · rw [List.concat_eq_append] at *
        exact hs ys y (ih ys (by simp at h; exact h))
  exact this _ xs rfl
theorem lotsF_len (P : Nat → Nat → Bool) : ∀ near : List Nat, 1 ≤ (lotsF P near).length ∧ (lotsF P near).length ≤ 2 ^ near.length := by
  refine snoc_ind (C := fun near => 1 ≤ (lotsF P near).length ∧ (lotsF P near).length ≤ 2 ^ near.length) ⟨Nat.le_refl _, Nat.le_refl _⟩ ?_
  rintro xs x ⟨h1, h2⟩
  rw [lotsF_snoc]
  unfold addC
  rw [List.length_append, List.length_map, List.length_append, List.length_singleton, Nat.pow_succ]
  have := List.length_filter_le (okB P x) (lotsF P xs)
  omega
theorem lotsF_mem (P : Nat → Nat → Bool) : ∀ near : List Nat, ∀ l ∈ lotsF P near, (∀ o ∈ l, o ∈ near) ∧ l.length ≤ near.length := by
  refine snoc_ind (C := fun near => ∀ l ∈ lotsF P near, (∀ o ∈ l, o ∈ near) ∧ l.length ≤ near.length) ?_ fun xs x ih => ?_
  · intro l hl
    rw [List.mem_singleton.mp hl]
    exact ⟨fun o h => (by cases h), Nat.le_refl _⟩
  · rw [lotsF_snoc]
    intro l hl
    rcases List.mem_append.mp hl with hl | hl
    · obtain ⟨h1, h2⟩ := ih l hl
      exact ⟨fun o ho => List.mem_append.mpr (.inl (h1 o ho)), by rw [List.length_append]; omega⟩
    · obtain ⟨m, hm, rfl⟩ := List.mem_map.mp hl
      obtain ⟨h1, h2⟩ := ih m (List.mem_filter.mp hm).1
      refine ⟨fun o ho => ?_, by rw [List.length_append, List.length_append]; simp; omega⟩
      rcases List.mem_append.mp ho with ho | ho
      · exact List.mem_append.mpr (.inl (h1 o ho))
      · exact List.mem_append.mpr (.inr ho)
def notQ (P : Nat → Nat → Bool) (c : Nat) : PyData → Bool
  | .int o => !P o.toNat c
  | _ => false
theorem not_none (P : Nat → Nat → Bool) (c : Nat) (l : List Nat) : PyData.eqv (.int ((((l.map nI).filter (notQ P c)).map (id : PyData → PyData)).length : Int)) (.int 0) = okB P c l := by
  rw [eqv_int, List.map_id]
  unfold okB
  induction l with
  | nil => rfl
  | cons o l ih =>
    rw [List.map_cons, List.filter_cons, List.all_cons]
    have e : notQ P c (nI o) = !P o c := by show (!P (o : Int).toNat c) = _; rw [Int.toNat_natCast]
    rw [e]
    cases P o c with
    | true => exact ih
    | false => simp; omega
def lotsD (ls : List (List Nat)) : List PyData := ls.map lU
def neL (l : List Nat) : Bool := decide (0 < l.length)
def neD : PyData → Bool
  | .tuple xs => decide (0 < xs.length)
  | _ => false
theorem ne_lU (l : List Nat) : neD (lU l) = neL l := by show decide (0 < (l.map nI).length) = _; rw [List.length_map]; rfl
theorem neL_eq (l : List Nat) : ltB 0 (l.length : Int) = neL l := by
  show decide _ = decide _
  rw [decide_eq_decide]
  omega
def mlots (ps bs : List Int) : List (List Nat) := (lotsF (mtB ps bs) (List.range ps.length)).filter neL
def mlOk (a : List Int × List Int) : Prop := PsOk a.1 ∧ a.2.length = a.1.length
def mlS : FS := { α := List Int × List Int, args := fun a => [.v (gU a.1), .v (gU a.2)], pre := mlOk, post := fun a r us' => r = .o (lotsD (mlots a.1 a.2)) ∧ us' = [.v (gU a.1), .v (gU a.2)] }
theorem w_meeting_lots (ps bs : List Int) (hp : PsOk ps) (hb : bs.length = ps.length) : wpF (gam [mtS]) 60 b_meeting_lots 7 [.v (gU ps), .v (gU bs)] (fun r us' => r = .o (lotsD (mlots ps bs)) ∧ us' = [.v (gU ps), .v (gU bs)]) (fun _ _ => False) := by
  have hl := hp.le
  walk_at "gm"
  rw [List.length_map]
  refine ckP_of ⟨by omega, by omega⟩ ?_
  rw [Int.toNat_natCast]
  refine forP_inv (fun i e => ∃ (a b c : Option U), e = [some (.v (gU ps)), some (.v (gU bs)), some (.o (lotsD (lotsF (mtB ps bs) (List.range i)))), a, b, c, none] ∧ Fre a ∧ (Fre b ∨ ∃ l, b = some (.o l)) ∧ Fre c) ⟨_, _, _, rfl, .no, .inl .no, .no⟩ ?_ ?_
  · rintro i x e nx hx ⟨a, b, c, rfl, ha, hb', hc⟩ hn
    obtain ⟨hi, rfl⟩ := rng_get hx
    rw [Int.zero_add] at *
    generalize hL : lotsF (mtB ps bs) (List.range i) = L
    have hLm : ∀ l ∈ L, (∀ o ∈ l, o < i) ∧ l.length ≤ i := fun l h => by
      rw [← hL] at h
      obtain ⟨h1, h2⟩ := lotsF_mem _ _ l h
      rw [List.length_range] at h2
      exact ⟨fun o ho => List.mem_range.mp (h1 o ho), h2⟩
    have hLl : L.length ≤ 4096 := by
      have := (lotsF_len (mtB ps bs) (List.range i)).2
      rw [hL, List.length_range] at this
      exact Nat.le_trans this (Nat.pow_le_pow_right (n := 2) (j := 12) (by decide) (by omega))
    rw [List.range_succ, lotsF_snoc, hL] at hn
    walk_at "gm"
    refine ckP_of ⟨asg_b hb', True.intro⟩ ?_
    walk_at "gm"
    refine forP_inv (fun j e => ∃ (c : Option U), e = [some (.v (gU ps)), some (.v (gU bs)), some (.v (.list (lotsD L))), some (.v (.int i)), some (.o (((L.take j).filter (okB (mtB ps bs) i)).map fun l => lU (l ++ [i]))), c, none] ∧ Fre c) ⟨_, rfl, hc⟩ ?_ ?_
    · rintro j x e nx2 hx2 ⟨c, rfl, hc⟩ hn2
      obtain ⟨l, hl2, rfl⟩ := map_at hx2
      obtain ⟨k1, k2⟩ := hLm l (List.mem_of_getElem? hl2)
      have hj : j < L.length := (List.getElem?_eq_some_iff.mp hl2).1
      rw [take_get hl2, List.filter_append, List.map_append] at hn2
      walk_at "gm"
      refine ckP_of ⟨⟨True.intro, True.intro⟩, by rw [List.length_map]; unfold LIM; omega⟩ ?_
      refine compP_filter (notQ (mtB ps bs) i) id ?_ ?_
      · intro z hz nx3 hn3
        obtain ⟨o, ho, rfl⟩ := List.mem_map.mp hz
        have h1 := k1 o ho
        rw [show notQ (mtB ps bs) i (nI o) = !mtB ps bs o i by show (!mtB ps bs (o : Int).toNat i) = _; rw [Int.toNat_natCast]] at hn3
        walk_at "gm"
        refine call_mt rfl hp (by omega) (by omega) (by omega) ?_
        walk_at "gm"
        refine brP_of (fun q => ?_) fun q => ?_
        · rw [q] at hn3
          walk_at "gm"
          exact hn3
        · rw [q] at hn3
          walk_at "gm"
          exact hn3
      walk_at "gm"
      rw [not_none]
      refine brP_of (fun q => ?_) fun q => ?_
      · walk_at "gm"
        refine ckP_of (by show _ + _ ≤ LIM; rw [List.length_map]; simp; unfold LIM; omega) ?_
        walk_at "gm"
        refine ckP_of ?_ ?_
        · show (((L.take j).filter (okB (mtB ps bs) i)).map fun l => lU (l ++ [i])).length < LIM
          rw [List.length_map]
          have := List.length_filter_le (okB (mtB ps bs) i) (L.take j)
          rw [List.length_take] at this
          unfold LIM; omega
        walk_at "gm"
        rw [List.filter_cons, q] at hn2
        have e1 : (PyData.tuple (l.map nI ++ [.int i])) = lU (l ++ [i]) := by unfold lU; rw [List.map_append]; rfl
        rw [e1]
        exact hn2 _ ⟨_, rfl, .v _⟩
      · walk_at "gm"
        rw [List.filter_cons, q] at hn2
        rw [if_neg Bool.false_ne_true, List.filter_nil, List.map_nil, List.append_nil] at hn2
        exact hn2 _ ⟨_, rfl, .v _⟩
    · rintro e ⟨c, rfl, hc⟩
      walk_at "gm"
      have hll : (lotsD L).length = L.length := List.length_map ..
      have hf := List.length_filter_le (okB (mtB ps bs) i) L
      have e1 : lotsD L ++ ((L.filter (okB (mtB ps bs) i)).map fun l => lU (l ++ [i])) = lotsD (addC (mtB ps bs) L i) := by
        unfold lotsD addC
        rw [List.map_append, List.map_map]
        rfl
      rw [hll, List.take_length]
      refine ckP_of (by show _ + _ ≤ LIM; rw [List.length_map, hll]; unfold LIM; omega) ?_
      walk_at "gm"
      rw [e1]
      exact hn _ ⟨_, _, _, rfl, .v _, .inr ⟨_, rfl⟩, hc⟩
  · rintro e ⟨a, b, c, rfl, ha, hb', hc⟩
    rw [rngI_length]
    have hLl : (lotsF (mtB ps bs) (List.range ps.length)).length ≤ 4096 := by
      have := (lotsF_len (mtB ps bs) (List.range ps.length)).2
      rw [List.length_range] at this
      exact Nat.le_trans this (Nat.pow_le_pow_right (n := 2) (j := 12) (by decide) (by omega))
    walk_at "gm"
    refine ckP_of ⟨⟨plain_fr hc rfl, True.intro⟩, by show (lotsD _).length ≤ LIM; unfold lotsD LIM; rw [List.length_map]; omega⟩ ?_
    refine compP_filter neD id ?_ ?_
    · intro z hz nx hn
      obtain ⟨l, hl, rfl⟩ := List.mem_map.mp hz
      rw [ne_lU] at hn
      walk_at "gm"
      rw [List.length_map]
      refine brP_of (fun q => ?_) fun q => ?_
      · rw [show neL l = true from (neL_eq l).symm.trans q] at hn
        walk_at "gm"
        exact hn
      · rw [show neL l = false from (neL_eq l).symm.trans q] at hn
        walk_at "gm"
        exact hn
    have e1 : ((lotsD (lotsF (mtB ps bs) (List.range ps.length))).filter neD).map id = lotsD (mlots ps bs) := by
      unfold mlots lotsD
      rw [List.map_id, List.filter_map]
      congr 1
      exact List.filter_congr fun l _ => ne_lU l
    rw [e1]
    walk_at "gm"
    exact ⟨rfl, rfl⟩
end GL

set_option maxRecDepth 100000
set_option maxHeartbeats 0
namespace GL
open PySem PySem.Spec PyProof.Rows L2 GM
local macro_rules | `(tactic| walk_at "gw") => `(tactic| conv => whnf)
local macro_rules | `(tactic| walk_at "g1") => `(tactic| first | refine optP_of rfl ?_ | (apply envP_of; focus ((try simp only [GM.start, List.map, List.length, List.reduceReplicate, Nat.reduceAdd, Nat.reduceSub, List.cons_append, List.nil_append, GM.put, GM.wb, GM.putR, GM.updE, GM.putF, GM.puts, GM.wipes, GM.get, List.reverse_cons, List.reverse_nil]); exact rfl)) | (refine ckP_of ?_ ?_; exact True.intro) | (refine ckP_of ?_ ?_; exact rfl) | (refine ckP_of ?_ ?_; exact ⟨rfl, rfl⟩) | (refine ckP_of ?_ ?_; exact ⟨True.intro, True.intro⟩) | (refine ckP_of ?_ ?_; exact asg_fr (by assumption) rfl) | (refine ckP_of ?_ ?_; exact ⟨asg_fr (by assumption) rfl, True.intro⟩) | refine brP_t rfl ?_ | refine brP_f rfl ?_ | fail)
local macro_rules | `(tactic| walk_at "gm") => `(tactic| (walk_at "gw"; repeat' (walk_at "g1"; walk_at "gw")))
open CR
theorem bi_max (ns : List Int) : biD .max1 [.list (ns.map .int)] = some (.v (.int (maxI ns))) := by simp [biD, seqD, ints_some]
def lenI (ls : List (List Nat)) : List Int := ls.map fun l => (l.length : Int)
def mostI (ps bs : List Int) : Int := maxI (lenI (mlots ps bs))
def moS : FS := valS (fun a : List Int × List Int => [.v (gU a.1), .v (gU a.2)]) (fun a => mlOk a ∧ 1 ≤ a.1.length) (fun a => .int (mostI a.1 a.2))
def lnD : PyData → PyData
  | .tuple xs => .int xs.length
  | d => d
theorem ln_map (ls : List (List Nat)) : (lotsD ls).map lnD = (lenI ls).map .int := by
  unfold lotsD lenI
  rw [List.map_map, List.map_map]
  refine List.map_congr_left fun l _ => ?_
  show PyData.int ((l.map nI).length : Int) = _
  rw [List.length_map]; rfl
theorem lots0 (P : Nat → Nat → Bool) : ∀ near : List Nat, near ≠ [] → ∃ l ∈ lotsF P near, 0 < l.length := by
  refine snoc_ind (C := fun near => near ≠ [] → ∃ l ∈ lotsF P near, 0 < l.length) (fun h => absurd rfl h) fun xs x ih _ => ?_
  rw [lotsF_snoc]
  have h0 : [] ∈ lotsF P xs := by
    refine snoc_ind (C := fun xs => [] ∈ lotsF P xs) (List.mem_singleton.mpr rfl) (fun ys y h => ?_) xs
    rw [lotsF_snoc]
    exact List.mem_append.mpr (.inl h)
  exact ⟨[x], List.mem_append.mpr (.inr (List.mem_map.mpr ⟨[], List.mem_filter.mpr ⟨h0, rfl⟩, rfl⟩)), by simp⟩
theorem mlots_pos {ps bs : List Int} (h : 1 ≤ ps.length) : 0 < (mlots ps bs).length := by
  obtain ⟨l, h1, h2⟩ := lots0 (mtB ps bs) (List.range ps.length) (by intro z; rw [List.range_eq_nil] at z; omega)
  exact List.length_pos_of_mem (List.mem_filter.mpr ⟨h1, decide_eq_true h2⟩)
theorem mlots_le {ps bs : List Int} (h : ps.length ≤ 12) : (mlots ps bs).length ≤ 4096 := by
  have := (lotsF_len (mtB ps bs) (List.range ps.length)).2
  rw [List.length_range] at this
  have h2 := List.length_filter_le neL (lotsF (mtB ps bs) (List.range ps.length))
  exact Nat.le_trans h2 (Nat.le_trans this (Nat.pow_le_pow_right (n := 2) (j := 12) (by decide) (by omega)))
theorem w_most_at_once (ps bs : List Int) (hp : PsOk ps) (hb : bs.length = ps.length) (h1 : 1 ≤ ps.length) : wpF (gam [mlS]) 60 b_most_at_once 3 [.v (gU ps), .v (gU bs)] (fun r us' => r = .v (.int (mostI ps bs)) ∧ us' = [.v (gU ps), .v (gU bs)]) (fun _ _ => False) := by
  have hl := hp.le
  have hm := mlots_le (bs := bs) hl
  walk_at "gm"
  refine callP_of mlS rfl (ps, bs) rfl ⟨hp, hb⟩ ?_ fun _ _ h => h.elim
  rintro r us' ⟨rfl, rfl⟩
  walk_at "gm"
  refine ckP_of ⟨⟨True.intro, True.intro⟩, by show (lotsD (mlots ps bs)).length ≤ LIM; unfold lotsD LIM; rw [List.length_map]; omega⟩ ?_
  refine compP_map lnD ?_ ?_
  · intro z hz nx hn
    obtain ⟨l, hl, rfl⟩ := List.mem_map.mp hz
    walk_at "gm"
    exact hn
  rw [ln_map]
  walk_at "gm"
  refine optP_of (bi_max _) ?_
  refine ckP_of (by show 0 < ((lenI (mlots ps bs)).map PyData.int).length; unfold lenI; rw [List.length_map, List.length_map]; exact mlots_pos h1) ?_
  walk_at "gm"
  exact ⟨rfl, rfl⟩
/-! the greatest crowd with the last one -/
def nearL (P : Nat → Nat → Bool) (n : Nat) : List Nat := (List.range n).filter fun a => P a n
def cwl (ps row : List Int) : Int := maxI (lenI (lotsF (mtB ps row) (nearL (mtB ps row) (row.length - 1)))) + 1
def cwS : FS := valS (fun a : List Int × List Int => [.v (gU a.1), .v (gU a.2)]) (fun a => PsOk a.1 ∧ 1 ≤ a.2.length ∧ a.2.length ≤ a.1.length) (fun a => .int (cwl a.1 a.2))
def nearQ (P : Nat → Nat → Bool) (n : Nat) : PyData → Bool
  | .int o => P o.toNat n
  | _ => false
theorem rng_map (n : Nat) : rngI 0 n = (List.range n).map nI := by
  unfold rngI
  refine List.map_congr_left fun c _ => ?_
  rw [Int.zero_add]; rfl
end GL

set_option maxRecDepth 100000
set_option maxHeartbeats 0
namespace GL
open PySem PySem.Spec PyProof.Rows L2 GM
local macro_rules | `(tactic| walk_at "gw") => `(tactic| conv => whnf)
local macro_rules | `(tactic| walk_at "g1") => `(tactic| first | refine optP_of rfl ?_ | (apply envP_of; focus ((try simp only [GM.start, List.map, List.length, List.reduceReplicate, Nat.reduceAdd, Nat.reduceSub, List.cons_append, List.nil_append, GM.put, GM.wb, GM.putR, GM.updE, GM.putF, GM.puts, GM.wipes, GM.get, List.reverse_cons, List.reverse_nil]); exact rfl)) | (refine ckP_of ?_ ?_; exact True.intro) | (refine ckP_of ?_ ?_; exact rfl) | (refine ckP_of ?_ ?_; exact ⟨rfl, rfl⟩) | (refine ckP_of ?_ ?_; exact ⟨True.intro, True.intro⟩) | (refine ckP_of ?_ ?_; exact asg_fr (by assumption) rfl) | (refine ckP_of ?_ ?_; exact ⟨asg_fr (by assumption) rfl, True.intro⟩) | refine brP_t rfl ?_ | refine brP_f rfl ?_ | fail)
local macro_rules | `(tactic| walk_at "gm") => `(tactic| (walk_at "gw"; repeat' (walk_at "g1"; walk_at "gw")))
open CR
/-! the most of a list -/
theorem maxI_mem : ∀ {l : List Int}, l ≠ [] → maxI l ∈ l
  | [], h => absurd rfl h
  | [x], _ => by simp [maxI]
  | a :: b :: l, _ => by
    have e : maxI (a :: b :: l) = max a (maxI (b :: l)) := rfl
    rw [e]
    have := maxI_mem (l := b :: l) (by simp)
    by_cases c : a ≤ maxI (b :: l)
    · rw [Int.max_eq_right c]; exact List.mem_cons_of_mem _ this
    · rw [Int.max_eq_left (by omega)]; exact List.mem_cons_self
theorem maxI_ge : ∀ {l : List Int} {x : Int}, x ∈ l → x ≤ maxI l
  | [y], x, h => by rw [List.mem_singleton.mp h]; exact Int.le_refl _
  | a :: b :: l, x, h => by
    have e : maxI (a :: b :: l) = max a (maxI (b :: l)) := rfl
    rw [e]
    rcases List.mem_cons.mp h with h | h
    · rw [h]; exact Int.le_max_left _ _
    · exact Int.le_trans (maxI_ge h) (Int.le_max_right _ _)
theorem maxI_le {l : List Int} {m : Int} (h : l ≠ []) : maxI l ≤ m ↔ ∀ x ∈ l, x ≤ m :=
  ⟨fun a x hx => Int.le_trans (maxI_ge hx) a, fun a => a _ (maxI_mem h)⟩
/-! lots that meet two by two: sublists -/
def TwoP (P : Nat → Nat → Bool) (l : List Nat) : Prop := l.Pairwise fun i j => P i j = true
theorem lots_iff (P : Nat → Nat → Bool) : ∀ near : List Nat, ∀ l, l ∈ lotsF P near ↔ l.Sublist near ∧ TwoP P l := by
  refine snoc_ind (C := fun near => ∀ l, l ∈ lotsF P near ↔ l.Sublist near ∧ TwoP P l) ?_ fun xs x ih => ?_
  · intro l
    constructor
    · intro h
      rw [List.mem_singleton.mp h]
      exact ⟨List.Sublist.refl _, List.Pairwise.nil⟩
    · rintro ⟨h, _⟩
      rw [List.sublist_nil.mp h]
      exact List.mem_singleton.mpr rfl
  · intro l
    rw [lotsF_snoc]
    constructor
    · intro h
      rcases List.mem_append.mp h with h | h
      · obtain ⟨h1, h2⟩ := (ih l).mp h
        exact ⟨h1.trans (List.sublist_append_left _ _), h2⟩
      · obtain ⟨m, hm, rfl⟩ := List.mem_map.mp h
        obtain ⟨hm, hok⟩ := List.mem_filter.mp hm
        obtain ⟨h1, h2⟩ := (ih m).mp hm
        refine ⟨List.Sublist.append h1 (List.Sublist.refl _), List.pairwise_append.mpr ⟨h2, List.pairwise_singleton _ _, fun o ho c hc => ?_⟩⟩
        rw [List.mem_singleton.mp hc]
        exact List.all_eq_true.mp hok o ho
    · rintro ⟨h1, h2⟩
      obtain ⟨m, r, rfl, hm, hr⟩ := List.sublist_append_iff.mp h1
      obtain ⟨p1, p2, p3⟩ := List.pairwise_append.mp h2
      have hr : r = [] ∨ r = [x] := by
        match r, hr with
        | [], _ => exact .inl rfl
        | y :: ys, hr =>
          right
          have hl := hr.length_le
          have hys : ys = [] := by simpa using hl
          subst hys
          have := hr.subset List.mem_cons_self
          rw [List.mem_singleton.mp this]
      rcases hr with rfl | rfl
      · rw [List.append_nil]
        exact List.mem_append.mpr (.inl ((ih m).mpr ⟨hm, p1⟩))
      · refine List.mem_append.mpr (.inr (List.mem_map.mpr ⟨m, List.mem_filter.mpr ⟨(ih m).mpr ⟨hm, p1⟩, ?_⟩, rfl⟩))
        exact List.all_eq_true.mpr fun o ho => p3 o ho x (List.mem_singleton.mpr rfl)
/-! days -/
def dayQ (ps bs : List Int) (day : Int) (c : Nat) : Bool := decide (day % at0 ps c = at0 bs c)
def dayL (ps bs : List Int) (day : Int) : List Nat := (List.range ps.length).filter (dayQ ps bs day)
theorem meets_comm {ps bs : List Int} {i j : Nat} (h : meets ps bs i j) : meets ps bs j i := by
  unfold meets at *
  have h1 := Int.dvd_of_emod_eq_zero h
  rw [gI_comm]
  have e : at0 bs j - at0 bs i = -(at0 bs i - at0 bs j) := by omega
  rw [e]
  exact Int.emod_eq_zero_of_dvd (Int.dvd_neg.mpr h1)
structure BsOk (ps bs : List Int) : Prop where
  len : bs.length = ps.length
  all : ∀ c, c < ps.length → 0 ≤ at0 bs c ∧ at0 bs c < at0 ps c
theorem lot_day {ps bs : List Int} (hp : PsOk ps) (hb : BsOk ps bs) {l : List Nat} (hl : l.Sublist (List.range ps.length)) (h2 : TwoP (mtB ps bs) l) : ∃ x : Int, ∀ c ∈ l, x % at0 ps c = at0 bs c := by
  have hf : Fit ps bs l := fun c hc => by
    have hcl := List.mem_range.mp (hl.subset hc)
    have h1 := hp.at0 hcl
    have h2 := hb.all c hcl
    exact ⟨by omega, h2.1, h2.2⟩
  have hn : mdS ps bs l 0 1 ≠ none := md_none (pre := []) hf (by decide) (by decide) (by decide) rfl (fun c h => by cases h) fun i j a b hi hj hij => by
    have hi : l[i]? = some a := hi
    have hj : l[j]? = some b := hj
    obtain ⟨li, ei⟩ := List.getElem?_eq_some_iff.mp hi
    obtain ⟨lj, ej⟩ := List.getElem?_eq_some_iff.mp hj
    have := List.pairwise_iff_getElem.mp h2 i j li lj hij
    rw [ei, ej] at this
    exact meets_comm (of_decide_eq_true this)
  cases e : mdS ps bs l 0 1 with
  | none => exact absurd e hn
  | some q =>
    obtain ⟨d, w⟩ := q
    exact ⟨d, fun c hc => ((md_ok hf (by decide) (by decide) (by decide) e).2.2.2.2.2 c hc).2⟩
theorem lenI_le {ls : List (List Nat)} {m : Int} (h : ls ≠ []) : maxI (lenI ls) ≤ m ↔ ∀ l ∈ ls, (l.length : Int) ≤ m := by
  unfold lenI
  rw [maxI_le (by simpa using h)]
  exact ⟨fun a l hl => a _ (List.mem_map.mpr ⟨l, hl, rfl⟩), fun a x hx => by obtain ⟨l, hl, rfl⟩ := List.mem_map.mp hx; exact a l hl⟩
theorem mlots_ne {ps bs : List Int} (h : 1 ≤ ps.length) : mlots ps bs ≠ [] := fun z => by
  have := mlots_pos (bs := bs) h
  rw [z] at this
  cases this
theorem most_le {ps bs : List Int} {m : Int} (h1 : 1 ≤ ps.length) (h0 : 0 ≤ m) : mostI ps bs ≤ m ↔ ∀ l, l.Sublist (List.range ps.length) → TwoP (mtB ps bs) l → (l.length : Int) ≤ m := by
  unfold mostI
  rw [lenI_le (mlots_ne h1)]
  constructor
  · intro a l k1 k2
    by_cases hl : 0 < l.length
    · exact a l (List.mem_filter.mpr ⟨(lots_iff _ _ l).mpr ⟨k1, k2⟩, decide_eq_true hl⟩)
    · omega
  · intro a l hl
    obtain ⟨k1, k2⟩ := (lots_iff _ _ l).mp (List.mem_filter.mp hl).1
    exact a l k1 k2
theorem most_pos {ps bs : List Int} (h1 : 1 ≤ ps.length) : 1 ≤ mostI ps bs := by
  obtain ⟨l, hl⟩ := List.exists_mem_of_ne_nil _ (mlots_ne (bs := bs) h1)
  have : (l.length : Int) ≤ mostI ps bs := maxI_ge (List.mem_map.mpr ⟨l, hl, rfl⟩)
  have h2 : 0 < l.length := of_decide_eq_true (List.mem_filter.mp hl).2
  omega
def dayCnt (ps bs : List Int) (L : Nat) : List Int := (List.range L).map fun (d : Nat) => ((dayL ps bs d).length : Int)
theorem most_days {ps bs : List Int} (hp : PsOk ps) (hb : BsOk ps bs) (h1 : 1 ≤ ps.length) {L : Nat} (hL : 0 < L) (hd : ∀ c, c < ps.length → at0 ps c ∣ (L : Int)) : maxI (dayCnt ps bs L) = mostI ps bs := by
  have hne : dayCnt ps bs L ≠ [] := by
    unfold dayCnt
    intro z
    have := congrArg List.length z
    simp at this
    omega
  have hm := most_pos (bs := bs) h1
  refine Int.le_antisymm ?_ ?_
  · refine (maxI_le hne).mpr fun x hx => ?_
    obtain ⟨d, _, rfl⟩ := List.mem_map.mp hx
    refine (most_le (m := mostI ps bs) h1 (by omega)).mp (Int.le_refl _) (dayL ps bs d) List.filter_sublist ?_
    have hc : ∀ c ∈ dayL ps bs d, (d : Int) % at0 ps c = at0 bs c := fun c hc => of_decide_eq_true (List.mem_filter.mp hc).2
    exact List.Pairwise.imp_of_mem (R := fun _ _ => True) (fun ha hb _ => decide_eq_true (meet_of (hc _ ha) (hc _ hb))) (List.pairwise_of_forall (fun _ _ => trivial))
  · refine (most_le h1 ?_).mpr fun l k1 k2 => ?_
    · have := maxI_mem hne
      obtain ⟨d, _, e⟩ := List.mem_map.mp this
      rw [← e]
      exact Int.natCast_nonneg _
    · obtain ⟨x, hx⟩ := lot_day hp hb k1 k2
      have hL' : (0 : Int) < L := by omega
      have y0 := Int.emod_nonneg x (show (L : Int) ≠ 0 by omega)
      have y1 := Int.emod_lt_of_pos x hL'
      obtain ⟨y, hy⟩ := Int.eq_ofNat_of_zero_le y0
      have hc : ∀ c ∈ l, dayQ ps bs (y : Int) c = true := fun c hc => by
        refine decide_eq_true ?_
        rw [← hy, Int.emod_emod_of_dvd x (hd c (List.mem_range.mp (k1.subset hc)))]
        exact hx c hc
      have hs : l.Sublist (dayL ps bs y) := by
        have := k1.filter (dayQ ps bs (y : Int))
        rw [List.filter_eq_self.mpr hc] at this
        exact this
      have hle := hs.length_le
      refine Int.le_trans (Int.ofNat_le.mpr hle) (maxI_ge (List.mem_map.mpr ⟨y, List.mem_range.mpr (by omega), rfl⟩))
end GL

set_option maxRecDepth 100000
set_option maxHeartbeats 0
namespace GL
open PySem PySem.Spec PyProof.Rows L2 GM
local macro_rules | `(tactic| walk_at "gw") => `(tactic| conv => whnf)
local macro_rules | `(tactic| walk_at "g1") => `(tactic| first | refine optP_of rfl ?_ | (apply envP_of; focus ((try simp only [GM.start, List.map, List.length, List.reduceReplicate, Nat.reduceAdd, Nat.reduceSub, List.cons_append, List.nil_append, GM.put, GM.wb, GM.putR, GM.updE, GM.putF, GM.puts, GM.wipes, GM.get, List.reverse_cons, List.reverse_nil]); exact rfl)) | (refine ckP_of ?_ ?_; exact True.intro) | (refine ckP_of ?_ ?_; exact rfl) | (refine ckP_of ?_ ?_; exact ⟨rfl, rfl⟩) | (refine ckP_of ?_ ?_; exact ⟨True.intro, True.intro⟩) | (refine ckP_of ?_ ?_; exact asg_fr (by assumption) rfl) | (refine ckP_of ?_ ?_; exact ⟨asg_fr (by assumption) rfl, True.intro⟩) | refine brP_t rfl ?_ | refine brP_f rfl ?_ | fail)
local macro_rules | `(tactic| walk_at "gm") => `(tactic| (walk_at "gw"; repeat' (walk_at "g1"; walk_at "gw")))
open CR
/-! sums over lists -/
def sumI {α : Type} (f : α → Int) (l : List α) : Int := (l.map f).sum
theorem sumI_nil {α : Type} (f : α → Int) : sumI f [] = 0 := rfl
theorem sumI_cons {α : Type} (f : α → Int) (a : α) (l : List α) : sumI f (a :: l) = f a + sumI f l := by unfold sumI; rw [List.map_cons, List.sum_cons]
theorem sumI_app {α : Type} (f : α → Int) : ∀ (a b : List α), sumI f (a ++ b) = sumI f a + sumI f b
  | [], b => by rw [List.nil_append, sumI_nil, Int.zero_add]
  | x :: a, b => by rw [List.cons_append, sumI_cons, sumI_cons, sumI_app f a b, Int.add_assoc]
theorem sumI_map {α β : Type} (f : β → Int) (g : α → β) : ∀ (l : List α), sumI f (l.map g) = sumI (fun a => f (g a)) l
  | [] => rfl
  | x :: a => by rw [List.map_cons, sumI_cons, sumI_cons, sumI_map f g a]
theorem sumI_congr {α : Type} {f g : α → Int} : ∀ {l : List α}, (∀ a ∈ l, f a = g a) → sumI f l = sumI g l
  | [], _ => rfl
  | x :: a, h => by rw [sumI_cons, sumI_cons, h x List.mem_cons_self, sumI_congr fun y hy => h y (List.mem_cons_of_mem _ hy)]
theorem sumI_zero {α : Type} : ∀ (l : List α), sumI (fun _ => 0) l = 0
  | [] => rfl
  | x :: a => by rw [sumI_cons, sumI_zero a]; rfl
theorem sumI_add {α : Type} (f g : α → Int) : ∀ (l : List α), sumI (fun a => f a + g a) l = sumI f l + sumI g l
  | [] => rfl
  | x :: a => by rw [sumI_cons, sumI_cons, sumI_cons, sumI_add f g a]; omega
theorem sumI_mul {α : Type} (c : Int) (f : α → Int) : ∀ (l : List α), sumI (fun a => c * f a) l = c * sumI f l
  | [] => by rw [sumI_nil, sumI_nil, Int.mul_zero]
  | x :: a => by rw [sumI_cons, sumI_cons, sumI_mul c f a, Int.mul_add]
theorem sumI_swap {α β : Type} (f : α → β → Int) (k : List β) : ∀ (l : List α), sumI (fun a => sumI (f a) k) l = sumI (fun b => sumI (fun a => f a b) l) k
  | [] => by rw [sumI_nil]; exact (sumI_zero k).symm
  | x :: a => by
    rw [sumI_cons, sumI_swap f k a, ← sumI_add]
    exact sumI_congr fun b _ => (sumI_cons (fun a => f a b) x a).symm
theorem sumI_filter {α : Type} {f : α → Int} {p : α → Bool} : ∀ {l : List α}, (∀ a ∈ l, p a = false → f a = 0) → sumI f l = sumI f (l.filter p)
  | [], _ => rfl
  | x :: a, h => by
    have ih := sumI_filter (l := a) fun y hy => h y (List.mem_cons_of_mem _ hy)
    rw [sumI_cons, List.filter_cons]
    cases e : p x with
    | true => rw [if_pos rfl, sumI_cons, ih]
    | false => rw [if_neg Bool.false_ne_true, h x List.mem_cons_self e, ih, Int.zero_add]
theorem countP_sum {α : Type} (p : α → Bool) : ∀ (l : List α), ((l.countP p : Nat) : Int) = sumI (fun a => if p a = true then 1 else 0) l
  | [] => rfl
  | x :: a => by
    rw [sumI_cons, List.countP_cons, ← countP_sum p a]
    cases p x with
    | true => simp; omega
    | false => simp
theorem len_sum {α : Type} (p : α → Bool) (l : List α) : (((l.filter p).length : Nat) : Int) = sumI (fun a => if p a = true then 1 else 0) l := by
  rw [← List.countP_eq_length_filter, countP_sum]
/-! days that leave a remainder -/
theorem cnt_one {r : Nat} : ∀ n, (List.range n).countP (fun d => decide (d = r)) = if r < n then 1 else 0
  | 0 => by simp
  | n + 1 => by
    rw [List.range_succ, List.countP_append, cnt_one n, List.countP_singleton]
    by_cases h : r < n
    · have h3 : r < n + 1 := by omega
      have h4 : ¬ n = r := by omega
      simp [h, h3, h4]
    · by_cases h2 : n = r
      · subst h2; simp
      · have h3 : ¬ r < n + 1 := by omega
        simp [h, h2, h3]
theorem cnt_block {M r : Nat} (hr : r < M) : ∀ k, (List.range (M * k)).countP (fun d => decide (d % M = r)) = k
  | 0 => by simp
  | k + 1 => by
    rw [Nat.mul_succ, List.range_add, List.countP_append, cnt_block hr k, List.countP_map]
    have e : (List.range M).countP ((fun d => decide (d % M = r)) ∘ fun x => M * k + x) = (List.range M).countP (fun d => decide (d = r)) := by
      refine List.countP_congr fun x hx => ?_
      have hx := List.mem_range.mp hx
      show decide ((M * k + x) % M = r) = true ↔ _
      rw [Nat.mul_add_mod, Nat.mod_eq_of_lt hx]
    rw [e, cnt_one, if_pos hr]
theorem dvd_wOf (ps : List Int) {x : Nat} : ∀ (l : List Nat) (w : Int), (x ∈ l → at0 ps x ∣ wOf ps l w) ∧ w ∣ wOf ps l w
  | [], w => ⟨fun h => by simp at h, Int.dvd_refl _⟩
  | y :: ys, w => by
    obtain ⟨k1, k2⟩ := dvd_wOf ps (x := x) ys (lcI w (at0 ps y))
    refine ⟨fun h => ?_, Int.dvd_trans (lcI_l _ _) k2⟩
    rcases List.mem_cons.mp h with e | h
    · subst e; exact Int.dvd_trans (lcI_r _ _) k2
    · exact k1 h
theorem wOf_pos {ps : List Int} : ∀ {l : List Nat} {w : Int}, (∀ c ∈ l, 0 < at0 ps c) → 0 < w → 0 < wOf ps l w
  | [], _, _, h => h
  | c :: cs, w, hc, h => wOf_pos (l := cs) (fun x hx => hc x (List.mem_cons_of_mem _ hx)) (lcI_pos h (hc c List.mem_cons_self))
theorem all_day {ps bs : List Int} {l : List Nat} {x : Int} (hx : ∀ c ∈ l, x % at0 ps c = at0 bs c) (d : Int) : l.all (dayQ ps bs d) = true ↔ d % wOf ps l 1 = x % wOf ps l 1 := by
  rw [List.all_eq_true]
  constructor
  · intro h
    refine Int.emod_eq_emod_iff_emod_sub_eq_zero.mpr (Int.emod_eq_zero_of_dvd (w_dvd (Int.one_dvd _) fun c hc => ?_))
    have h1 : d % at0 ps c = at0 bs c := of_decide_eq_true (h c hc)
    exact Int.dvd_of_emod_eq_zero (Int.emod_eq_emod_iff_emod_sub_eq_zero.mp (h1.trans (hx c hc).symm))
  · intro h c hc
    refine decide_eq_true ?_
    rw [← hx c hc]
    have := Int.dvd_of_emod_eq_zero (Int.emod_eq_emod_iff_emod_sub_eq_zero.mp h)
    exact Int.emod_eq_emod_iff_emod_sub_eq_zero.mpr (Int.emod_eq_zero_of_dvd (Int.dvd_trans ((dvd_wOf ps l 1).1 hc) this))
theorem cnt_days {ps bs : List Int} {l : List Nat} {x : Int} (hx : ∀ c ∈ l, x % at0 ps c = at0 bs c) (hc : ∀ c ∈ l, 0 < at0 ps c) {W : Nat} (hW : wOf ps l 1 ∣ (W : Int)) : (((List.range W).countP fun (d : Nat) => l.all (dayQ ps bs (d : Int)) : Nat) : Int) = (W : Int) / wOf ps l 1 := by
  have hM := wOf_pos (ps := ps) (w := 1) hc (by decide)
  obtain ⟨k, hk⟩ := hW
  have ha := all_day hx
  generalize wOf ps l 1 = M at *
  have h0 := Int.emod_nonneg x (show M ≠ 0 by omega)
  have h1 := Int.emod_lt_of_pos x hM
  obtain ⟨m, rfl⟩ := Int.eq_ofNat_of_zero_le (Int.le_of_lt hM)
  obtain ⟨r, hr⟩ := Int.eq_ofNat_of_zero_le h0
  have hk0 : 0 ≤ k := by
    rcases Int.lt_or_le k 0 with z | z
    · have : (m : Int) * k < 0 := Int.mul_neg_of_pos_of_neg hM z
      omega
    · exact z
  obtain ⟨k, rfl⟩ := Int.eq_ofNat_of_zero_le hk0
  have hWk : W = m * k := by exact_mod_cast hk
  have e : (List.range W).countP (fun (d : Nat) => l.all (dayQ ps bs (d : Int))) = (List.range (m * k)).countP (fun d => decide (d % m = r)) := by
    rw [← hWk]
    refine List.countP_congr fun d _ => ?_
    rw [ha d, hr, decide_eq_true_eq]
    constructor
    · intro h; exact_mod_cast h
    · intro h; exact_mod_cast h
  rw [e, cnt_block (by omega) k, hk, Int.mul_ediv_cancel_left _ (by omega)]
/-! lots put in and out -/
def allL (xs : List Nat) : List (List Nat) := lotsF (fun _ _ => true) xs
theorem allL_snoc (xs : List Nat) (x : Nat) : allL (xs ++ [x]) = allL xs ++ (allL xs).map (· ++ [x]) := by
  unfold allL
  rw [lotsF_snoc]
  unfold addC
  congr 2
  exact List.filter_eq_self.mpr fun l _ => by unfold okB; exact List.all_eq_true.mpr fun _ _ => rfl
def sgn (l : List Nat) : Int := if l.length % 2 = 0 then 1 else -1
theorem sgn_snoc (l : List Nat) (x : Nat) : sgn (l ++ [x]) = - sgn l := by
  unfold sgn
  rw [List.length_append, List.length_singleton]
  by_cases h : l.length % 2 = 0
  · rw [if_pos h, if_neg (by omega)]
  · rw [if_neg h, if_pos (by omega)]; rfl
def ind (Q : Nat → Bool) (l : List Nat) : Int := if l.all Q = true then sgn l else 0
theorem ind_snoc (Q : Nat → Bool) (l : List Nat) (x : Nat) : ind Q (l ++ [x]) = if Q x = true then - ind Q l else 0 := by
  unfold ind
  rw [List.all_append, sgn_snoc]
  simp only [List.all_cons, List.all_nil, Bool.and_true]
  cases l.all Q with
  | true => cases Q x <;> rfl
  | false => cases Q x <;> rfl
theorem in_out (Q : Nat → Bool) : ∀ xs : List Nat, sumI (ind Q) (allL xs) = if xs.all (fun c => !Q c) = true then 1 else 0 := by
  refine snoc_ind (C := fun xs => sumI (ind Q) (allL xs) = if xs.all (fun c => !Q c) = true then 1 else 0) rfl fun xs x ih => ?_
  rw [allL_snoc, sumI_app, sumI_map, List.all_append]
  have e : sumI (fun l => ind Q (l ++ [x])) (allL xs) = if Q x = true then - sumI (ind Q) (allL xs) else 0 := by
    rw [sumI_congr fun l _ => ind_snoc Q l x]
    cases Q x with
    | true =>
      simp only [if_pos]
      have := sumI_mul (-1) (ind Q) (allL xs)
      rw [show (-1 : Int) * sumI (ind Q) (allL xs) = - sumI (ind Q) (allL xs) by omega] at this
      rw [← this]
      exact sumI_congr fun a _ => by omega
    | false => exact sumI_zero _
  rw [e, ih]
  simp only [List.all_cons, List.all_nil, Bool.and_true]
  cases Q x <;> cases (xs.all fun c => !Q c) <;> rfl
instance (P : Nat → Nat → Bool) (l : List Nat) : Decidable (TwoP P l) := by unfold TwoP; infer_instance
def partI (ps bs : List Int) (W : Int) (l : List Nat) : Int := if TwoP (mtB ps bs) l then W / wOf ps l 1 else 0
def idleN (ps bs : List Int) (W : Nat) : Nat := (List.range W).countP fun (d : Nat) => (List.range ps.length).all fun c => !dayQ ps bs d c
def shareI (ps bs : List Int) (W : Int) : Int := sumI (fun l => sgn l * partI ps bs W l) (allL (List.range ps.length))
theorem allL_mem {xs : List Nat} {l : List Nat} (h : l ∈ allL xs) : l.Sublist xs := ((lots_iff _ xs l).mp h).1
theorem cnt_lot {ps bs : List Int} (hp : PsOk ps) (hb : BsOk ps bs) {W : Nat} (hW : ∀ c, c < ps.length → at0 ps c ∣ (W : Int)) {l : List Nat} (hl : l.Sublist (List.range ps.length)) : (((List.range W).countP fun (d : Nat) => l.all (dayQ ps bs (d : Int)) : Nat) : Int) = partI ps bs W l := by
  have hm : ∀ c ∈ l, c < ps.length := fun c hc => List.mem_range.mp (hl.subset hc)
  unfold partI
  by_cases h2 : TwoP (mtB ps bs) l
  · rw [if_pos h2]
    obtain ⟨x, hx⟩ := lot_day hp hb hl h2
    exact cnt_days hx (fun c hc => by have := hp.at0 (hm c hc); omega) (w_dvd (Int.one_dvd _) fun c hc => hW c (hm c hc))
  · rw [if_neg h2]
    have : (List.range W).countP (fun (d : Nat) => l.all (dayQ ps bs (d : Int))) = 0 := by
      rw [List.countP_eq_zero]
      intro d _ ha
      refine h2 ?_
      have hc : ∀ c ∈ l, (d : Int) % at0 ps c = at0 bs c := fun c hc => of_decide_eq_true (List.all_eq_true.mp ha c hc)
      exact List.Pairwise.imp_of_mem (R := fun _ _ => True) (fun ha hb _ => decide_eq_true (meet_of (hc _ ha) (hc _ hb))) (List.pairwise_of_forall (fun _ _ => trivial))
    rw [this]; rfl
theorem idle_share_eq {ps bs : List Int} (hp : PsOk ps) (hb : BsOk ps bs) {W : Nat} (hW : ∀ c, c < ps.length → at0 ps c ∣ (W : Int)) : shareI ps bs W = idleN ps bs W := by
  unfold shareI idleN
  rw [countP_sum, sumI_congr (g := fun (d : Nat) => sumI (ind (dayQ ps bs (d : Int))) (allL (List.range ps.length))) fun d _ => (in_out _ _).symm, sumI_swap]
  refine sumI_congr fun l hl => ?_
  rw [← cnt_lot hp hb hW (allL_mem hl), countP_sum, ← sumI_mul]
  refine sumI_congr fun d _ => ?_
  unfold ind
  by_cases h : l.all (dayQ ps bs (d : Int)) = true
  · rw [if_pos h, if_pos h, Int.mul_one]
  · rw [if_neg h, if_neg h, Int.mul_zero]
end GL

set_option maxRecDepth 100000
set_option maxHeartbeats 0
namespace GL
open PySem PySem.Spec PyProof.Rows L2 GM
local macro_rules | `(tactic| walk_at "gw") => `(tactic| conv => whnf)
local macro_rules | `(tactic| walk_at "g1") => `(tactic| first | refine optP_of rfl ?_ | (apply envP_of; focus ((try simp only [GM.start, List.map, List.length, List.reduceReplicate, Nat.reduceAdd, Nat.reduceSub, List.cons_append, List.nil_append, GM.put, GM.wb, GM.putR, GM.updE, GM.putF, GM.puts, GM.wipes, GM.get, List.reverse_cons, List.reverse_nil]); exact rfl)) | (refine ckP_of ?_ ?_; exact True.intro) | (refine ckP_of ?_ ?_; exact rfl) | (refine ckP_of ?_ ?_; exact ⟨rfl, rfl⟩) | (refine ckP_of ?_ ?_; exact ⟨True.intro, True.intro⟩) | (refine ckP_of ?_ ?_; exact asg_fr (by assumption) rfl) | (refine ckP_of ?_ ?_; exact ⟨asg_fr (by assumption) rfl, True.intro⟩) | refine brP_t rfl ?_ | refine brP_f rfl ?_ | fail)
local macro_rules | `(tactic| walk_at "gm") => `(tactic| (walk_at "gw"; repeat' (walk_at "g1"; walk_at "gw")))
open CR
/-! the lots that meet -/
def twB (P : Nat → Nat → Bool) (l : List Nat) : Bool := decide (TwoP P l)
theorem tw_snoc (P : Nat → Nat → Bool) (l : List Nat) (x : Nat) : twB P (l ++ [x]) = (okB P x l && twB P l) := by
  rw [Bool.eq_iff_iff, Bool.and_eq_true]
  unfold twB okB
  rw [decide_eq_true_eq, decide_eq_true_eq, List.all_eq_true]
  unfold TwoP
  rw [List.pairwise_append]
  constructor
  · rintro ⟨h1, _, h3⟩
    exact ⟨fun o ho => h3 o ho x (List.mem_singleton.mpr rfl), h1⟩
  · rintro ⟨h1, h2⟩
    exact ⟨h2, List.pairwise_singleton _ _, fun o ho c hc => by rw [List.mem_singleton.mp hc]; exact h1 o ho⟩
theorem lots_filter (P : Nat → Nat → Bool) : ∀ xs : List Nat, lotsF P xs = (allL xs).filter (twB P) := by
  refine snoc_ind (C := fun xs => lotsF P xs = (allL xs).filter (twB P)) ?_ fun xs x ih => ?_
  · show [[]] = ([[]] : List (List Nat)).filter (twB P)
    have : twB P [] = true := decide_eq_true List.Pairwise.nil
    rw [List.filter_cons, this, if_pos rfl, List.filter_nil]
  · rw [lotsF_snoc, allL_snoc, List.filter_append, ih]
    unfold addC
    congr 1
    rw [List.filter_map, List.filter_filter]
    congr 1
    refine List.filter_congr fun l _ => ?_
    exact (tw_snoc P l x).symm
theorem allL_cons : ∀ xs : List Nat, ∃ t, allL xs = [] :: t ∧ ∀ l ∈ t, neL l = true := by
  refine snoc_ind (C := fun xs => ∃ t, allL xs = [] :: t ∧ ∀ l ∈ t, neL l = true) ⟨[], rfl, fun l h => by cases h⟩ ?_
  rintro xs x ⟨t, ht, hn⟩
  rw [allL_snoc, ht]
  refine ⟨t ++ ([] :: t).map (· ++ [x]), rfl, fun l hl => ?_⟩
  rcases List.mem_append.mp hl with hl | hl
  · exact hn l hl
  · obtain ⟨m, _, rfl⟩ := List.mem_map.mp hl
    refine decide_eq_true ?_
    rw [List.length_append, List.length_singleton]; omega
def posL (xs : List Nat) : List (List Nat) := (allL xs).tail
theorem posL_eq (xs : List Nat) : allL xs = [] :: posL xs ∧ ∀ l ∈ posL xs, neL l = true := by
  obtain ⟨t, ht, hn⟩ := allL_cons xs
  unfold posL
  rw [ht]
  exact ⟨rfl, hn⟩
theorem mlots_pos_eq (ps bs : List Int) : mlots ps bs = (posL (List.range ps.length)).filter (twB (mtB ps bs)) := by
  unfold mlots
  rw [lots_filter, (posL_eq _).1, List.filter_cons]
  have : twB (mtB ps bs) [] = true := decide_eq_true List.Pairwise.nil
  rw [this, if_pos rfl, List.filter_cons, show neL [] = false from rfl, if_neg Bool.false_ne_true, List.filter_filter]
  refine List.filter_congr fun l hl => ?_
  rw [(posL_eq _).2 l hl, Bool.true_and]
theorem part_nil (ps bs : List Int) (W : Int) : sgn [] * partI ps bs W [] = W := by
  unfold partI
  rw [if_pos (show TwoP _ [] from List.Pairwise.nil)]
  show 1 * (W / 1) = W
  rw [Int.ediv_one, Int.one_mul]
theorem share_pos (ps bs : List Int) (W : Int) : shareI ps bs W = W + sumI (fun l => sgn l * partI ps bs W l) (posL (List.range ps.length)) := by
  unfold shareI
  rw [(posL_eq _).1, sumI_cons, part_nil]
theorem prog_sum (ps bs : List Int) (W : Int) : W + sumI (fun l => sgn l * (W / wOf ps l 1)) (mlots ps bs) = shareI ps bs W := by
  rw [share_pos, mlots_pos_eq]
  congr 1
  rw [sumI_filter (p := twB (mtB ps bs)) (f := fun l => sgn l * partI ps bs W l)]
  · refine sumI_congr fun l hl => ?_
    have h := (List.mem_filter.mp hl).2
    unfold partI
    rw [if_pos (of_decide_eq_true h)]
  · intro l _ h
    unfold partI
    rw [if_neg (of_decide_eq_false h), Int.mul_zero]
/-! the lots as masks -/
def bits (n m : Nat) : List Nat := (List.range n).filter fun a => m.testBit a
theorem bits_lt {n m : Nat} (h : m < 2 ^ n) : bits (n + 1) m = bits n m := by
  unfold bits
  rw [List.range_succ, List.filter_append, List.filter_cons, Nat.testBit_lt_two_pow h, if_neg Bool.false_ne_true, List.filter_nil, List.append_nil]
theorem bits_ge {n m : Nat} (h : m < 2 ^ n) : bits (n + 1) (2 ^ n + m) = bits n m ++ [n] := by
  unfold bits
  have e : (2 ^ n + m).testBit n = true := by rw [Nat.testBit_two_pow_add_eq, Nat.testBit_lt_two_pow h]; rfl
  rw [List.range_succ, List.filter_append, List.filter_cons, e, if_pos rfl, List.filter_nil]
  congr 1
  refine List.filter_congr fun a ha => ?_
  exact Nat.testBit_two_pow_add_gt (List.mem_range.mp ha) m
theorem allL_bits : ∀ n, allL (List.range n) = (List.range (2 ^ n)).map (bits n)
  | 0 => rfl
  | n + 1 => by
    rw [List.range_succ, allL_snoc, allL_bits n, Nat.pow_succ, Nat.mul_two, List.range_add, List.map_append, List.map_map, List.map_map]
    congr 1
    · exact List.map_congr_left fun m hm => (bits_lt (List.mem_range.mp hm)).symm
    · exact List.map_congr_left fun m hm => (bits_ge (List.mem_range.mp hm)).symm
theorem posL_bits (n : Nat) : posL (List.range n) = (List.range (2 ^ n - 1)).map fun k => bits n (k + 1) := by
  unfold posL
  have : 2 ^ n = (2 ^ n - 1) + 1 := by have := Nat.two_pow_pos n; omega
  rw [allL_bits, this, List.range_succ_eq_map, List.map_cons, List.tail_cons, List.map_map, Nat.add_sub_cancel]
  rfl
theorem law_sum (ps bs : List Int) (W : Int) : W + sumI (fun k => sgn (bits ps.length (k + 1)) * partI ps bs W (bits ps.length (k + 1))) (List.range (2 ^ ps.length - 1)) = shareI ps bs W := by
  rw [share_pos, posL_bits, sumI_map]
/-! just one a day -/
def exactB (ps bs : List Int) (W : Nat) : Bool := (List.range W).all fun (d : Nat) => decide ((dayL ps bs d).length = 1)
theorem idle_nil (ps bs : List Int) (d : Int) : ((List.range ps.length).all fun c => !dayQ ps bs d c) = decide ((dayL ps bs d).length = 0) := by
  rw [Bool.eq_iff_iff, List.all_eq_true, decide_eq_true_eq, List.length_eq_zero_iff]
  unfold dayL
  rw [List.filter_eq_nil_iff]
  refine ⟨fun h c hc q => ?_, fun h c hc => ?_⟩
  · have := h c hc
    rw [q] at this
    cases this
  · have := h c hc
    simpa using this
theorem day_len_le {ps bs : List Int} {d W : Nat} (hd : d < W) : ((dayL ps bs d).length : Int) ≤ maxI (dayCnt ps bs W) :=
  maxI_ge (List.mem_map.mpr ⟨d, List.mem_range.mpr hd, rfl⟩)
theorem exact_prog {ps bs : List Int} (hp : PsOk ps) (hb : BsOk ps bs) (h1 : 1 ≤ ps.length) {W : Nat} (hW0 : 0 < W) (hW : ∀ c, c < ps.length → at0 ps c ∣ (W : Int)) : exactB ps bs W = (decide (mostI ps bs = 1) && decide (idleN ps bs W = 0)) := by
  rw [← most_days hp hb h1 hW0 hW, Bool.eq_iff_iff, Bool.and_eq_true, decide_eq_true_eq, decide_eq_true_eq]
  unfold exactB idleN
  rw [List.all_eq_true, List.countP_eq_zero]
  have hne : dayCnt ps bs W ≠ [] := by
    intro z
    have := congrArg List.length z
    unfold dayCnt at this
    rw [List.length_map, List.length_range] at this
    exact absurd this (by simp; omega)
  constructor
  · intro h
    have h : ∀ d, d < W → (dayL ps bs d).length = 1 := fun d hd => of_decide_eq_true (h d (List.mem_range.mpr hd))
    refine ⟨?_, fun d hd => ?_⟩
    · have := maxI_mem hne
      obtain ⟨d, hd, e⟩ := List.mem_map.mp this
      rw [← e, h d (List.mem_range.mp hd)]; rfl
    · rw [idle_nil, h d (List.mem_range.mp hd)]; decide
  · rintro ⟨h, h2⟩ d hd
    refine decide_eq_true ?_
    have k1 := day_len_le (ps := ps) (bs := bs) (List.mem_range.mp hd)
    have k2 := h2 d hd
    rw [idle_nil, decide_eq_true_eq] at k2
    omega
def noMt (ps bs : List Int) : Bool := (List.range ps.length).all fun i => (List.range i).all fun j => !mtB ps bs i j
theorem at_ps (ps : List Int) : (List.range ps.length).map (at0 ps) = ps := by
  refine List.ext_getElem? fun i => ?_
  rw [List.getElem?_map]
  by_cases h : i < ps.length
  · rw [List.getElem?_range h, at_get h]; rfl
  · rw [List.getElem?_eq_none (by rw [List.length_range]; omega), List.getElem?_eq_none (by omega)]; rfl
theorem lcI_one {p : Int} (h : 0 < p) : lcI 1 p = p := by
  unfold lcI
  have : (1 : Int).natAbs = 1 := rfl
  rw [this, Nat.lcm_one_left]
  omega
theorem total {ps bs : List Int} (hp : PsOk ps) (hb : BsOk ps bs) {W : Nat} (hW : ∀ c, c < ps.length → at0 ps c ∣ (W : Int)) : sumI (fun (d : Nat) => ((dayL ps bs d).length : Int)) (List.range W) = sumI (fun p => (W : Int) / p) ps := by
  have e0 : sumI (fun (d : Nat) => ((dayL ps bs d).length : Int)) (List.range W) = sumI (fun (d : Nat) => sumI (fun c => if dayQ ps bs d c = true then 1 else 0) (List.range ps.length)) (List.range W) := sumI_congr fun d _ => len_sum (dayQ ps bs (d : Int)) _
  rw [e0, sumI_swap]
  have e : sumI (fun p => (W : Int) / p) ps = sumI (fun c => (W : Int) / at0 ps c) (List.range ps.length) := by
    have := sumI_map (fun p => (W : Int) / p) (at0 ps) (List.range ps.length)
    rw [at_ps] at this
    exact this
  rw [e]
  refine sumI_congr fun c hc => ?_
  have hc := List.mem_range.mp hc
  have h1 := cnt_lot hp hb hW (l := [c]) (List.singleton_sublist.mpr (List.mem_range.mpr hc))
  have hpos := hp.at0 hc
  have e2 : partI ps bs W [c] = (W : Int) / at0 ps c := by
    unfold partI
    rw [if_pos (show TwoP _ [c] from List.pairwise_singleton _ _)]
    show _ / lcI 1 (at0 ps c) = _
    rw [lcI_one (by omega)]
  rw [← e2, ← h1, countP_sum]
  refine sumI_congr fun d _ => ?_
  rw [List.all_cons, List.all_nil, Bool.and_true]
theorem ones {α : Type} {f : α → Int} : ∀ {l : List α}, (∀ a ∈ l, f a ≤ 1) → sumI f l ≤ l.length ∧ (sumI f l = l.length → ∀ a ∈ l, f a = 1)
  | [], _ => ⟨Int.le_refl _, fun _ a h => by cases h⟩
  | x :: l, h => by
    obtain ⟨i1, i2⟩ := ones (l := l) fun a ha => h a (List.mem_cons_of_mem _ ha)
    have hx := h x List.mem_cons_self
    rw [sumI_cons, List.length_cons]
    refine ⟨by omega, fun e a ha => ?_⟩
    rcases List.mem_cons.mp ha with rfl | ha
    · omega
    · exact i2 (by omega) a ha
theorem sum_one {α : Type} {f : α → Int} {l : List α} (h : ∀ a ∈ l, f a = 1) : sumI f l = l.length := by
  induction l with
  | nil => rfl
  | cons x l ih => rw [sumI_cons, h x List.mem_cons_self, ih fun a ha => h a (List.mem_cons_of_mem _ ha), List.length_cons]; omega
theorem one_len {l : List Nat} {n : Nat} (hs : l.Sublist (List.range n)) (h : ∀ i ∈ l, ∀ j ∈ l, j < i → False) : l.length ≤ 1 := by
  match l, hs, h with
  | [], _, _ => exact Nat.zero_le _
  | [x], _, _ => exact Nat.le_refl _
  | x :: y :: l, hs, h =>
    have hp : (x :: y :: l).Pairwise (· < ·) := List.Pairwise.sublist hs List.pairwise_lt_range
    have := (List.pairwise_cons.mp hp).1 y List.mem_cons_self
    exact (h y (by simp) x (by simp) this).elim
theorem exact_law {ps bs : List Int} (hp : PsOk ps) (hb : BsOk ps bs) {W : Nat} (hW0 : 0 < W) (hW : ∀ c, c < ps.length → at0 ps c ∣ (W : Int)) : exactB ps bs W = (decide (sumI (fun p => (W : Int) / p) ps = W) && noMt ps bs) := by
  rw [← total hp hb hW, Bool.eq_iff_iff, Bool.and_eq_true, decide_eq_true_eq]
  unfold exactB noMt
  rw [List.all_eq_true, List.all_eq_true]
  constructor
  · intro h
    have h : ∀ d, d < W → (dayL ps bs d).length = 1 := fun d hd => of_decide_eq_true (h d (List.mem_range.mpr hd))
    refine ⟨?_, fun i hi => List.all_eq_true.mpr fun j hj => ?_⟩
    · have := sum_one (f := fun (d : Nat) => ((dayL ps bs d).length : Int)) (l := List.range W) fun d hd => by rw [h d (List.mem_range.mp hd)]; rfl
      rw [List.length_range] at this
      exact this
    · have hi := List.mem_range.mp hi
      have hj := List.mem_range.mp hj
      cases e : mtB ps bs i j with
      | false => rfl
      | true =>
        have hs : [j, i].Sublist (List.range ps.length) := by
          have := (List.range_sublist (m := i + 1) (n := ps.length)).mpr (by omega)
          refine List.Sublist.trans ?_ this
          rw [List.range_succ]
          exact List.Sublist.append (List.singleton_sublist.mpr (List.mem_range.mpr hj)) (List.Sublist.refl [i])
        have ht : TwoP (mtB ps bs) [j, i] := List.pairwise_pair.mpr (decide_eq_true (meets_comm (of_decide_eq_true e)))
        obtain ⟨x, hx⟩ := lot_day hp hb hs ht
        have hL' : (0 : Int) < W := by omega
        have y0 := Int.emod_nonneg x (show (W : Int) ≠ 0 by omega)
        have y1 := Int.emod_lt_of_pos x hL'
        obtain ⟨y, hy⟩ := Int.eq_ofNat_of_zero_le y0
        have hc : ∀ c ∈ [j, i], dayQ ps bs (y : Int) c = true := fun c hc => by
          refine decide_eq_true ?_
          rw [← hy, Int.emod_emod_of_dvd x (hW c (List.mem_range.mp (hs.subset hc)))]
          exact hx c hc
        have hs2 : [j, i].Sublist (dayL ps bs y) := by
          have := hs.filter (dayQ ps bs (y : Int))
          rw [List.filter_eq_self.mpr hc] at this
          exact this
        have := hs2.length_le
        rw [h y (by omega)] at this
        exact absurd this (by simp)
  · rintro ⟨h, hn⟩ d hd
    have hle : ∀ d ∈ List.range W, ((dayL ps bs (d : Nat)).length : Int) ≤ 1 := fun d _ => by
      have := one_len (l := dayL ps bs d) (n := ps.length) List.filter_sublist fun i hi j hj hji => by
        obtain ⟨i1, i2⟩ := List.mem_filter.mp hi
        obtain ⟨j1, j2⟩ := List.mem_filter.mp hj
        have k := List.all_eq_true.mp (hn i i1) j (List.mem_range.mpr hji)
        have : mtB ps bs i j = true := decide_eq_true (meet_of (of_decide_eq_true i2) (of_decide_eq_true j2))
        rw [this] at k
        cases k
      omega
    have := (ones hle).2 (by rw [List.length_range]; exact h) d hd
    exact decide_eq_true (by omega)
end GL

set_option maxRecDepth 100000
set_option maxHeartbeats 0
namespace GL
open PySem PySem.Spec PyProof.Rows L2 GM
local macro_rules | `(tactic| walk_at "gw") => `(tactic| conv => whnf)
local macro_rules | `(tactic| walk_at "g1") => `(tactic| first | refine optP_of rfl ?_ | (apply envP_of; focus ((try simp only [GM.start, List.map, List.length, List.reduceReplicate, Nat.reduceAdd, Nat.reduceSub, List.cons_append, List.nil_append, GM.put, GM.wb, GM.putR, GM.updE, GM.putF, GM.puts, GM.wipes, GM.get, List.reverse_cons, List.reverse_nil]); exact rfl)) | (refine ckP_of ?_ ?_; exact True.intro) | (refine ckP_of ?_ ?_; exact rfl) | (refine ckP_of ?_ ?_; exact ⟨rfl, rfl⟩) | (refine ckP_of ?_ ?_; exact ⟨True.intro, True.intro⟩) | (refine ckP_of ?_ ?_; exact asg_fr (by assumption) rfl) | (refine ckP_of ?_ ?_; exact ⟨asg_fr (by assumption) rfl, True.intro⟩) | refine brP_t rfl ?_ | refine brP_f rfl ?_ | fail)
local macro_rules | `(tactic| walk_at "gm") => `(tactic| (walk_at "gw"; repeat' (walk_at "g1"; walk_at "gw")))
open CR
/-- two whole numbers from 0 on: their greatest common divisor -/
def gcdS : FS := valS (fun p : Nat × Nat => [.v (.int p.1), .v (.int p.2)]) (fun _ => True) (fun p => .int (Nat.gcd p.1 p.2))
theorem w_l_gcd (a b : Nat) : wpF (gam []) 60 b_l_gcd 2 [.v (.int a), .v (.int b)] (fun r us' => r = .v (.int (Nat.gcd a b)) ∧ us' = [.v (.int a), .v (.int b)]) (fun _ _ => False) := by
  walk_at "gm"
  refine whileP_inv (fun m e => ∃ x y : Nat, e = [some (.v (.int x)), some (.v (.int y))] ∧ Nat.gcd x y = Nat.gcd a b ∧ m = y) b ⟨a, b, rfl, rfl, rfl⟩ ?_
  rintro m e nx ⟨x, y, rfl, hg, rfl⟩ hn
  walk_at "gm"
  rw [eqv_int]
  refine brP_of (fun h => ?_) fun h => ?_
  · have h : (0 : Int) < m := by
      have h1 : ¬ (m : Int) = 0 := by simpa using h
      omega
    walk_at "gm"
    refine ckP_of h ?_
    walk_at "gm"
    refine hn (x % m) _ (Nat.mod_lt _ (by omega)) ⟨m, x % m, by rw [Int.natCast_emod]; rfl, ?_, rfl⟩
    rw [← hg, Nat.gcd_comm m, ← Nat.gcd_rec, Nat.gcd_comm]
  · have h : (m : Int) = 0 := by simpa using h
    walk_at "gm"
    have : m = 0 := by omega
    subst this
    rw [Nat.gcd_zero_right] at hg
    exact ⟨by rw [hg], rfl⟩
theorem call_common {o : Option FS} {x y : Int} {Qx : EX → List U → Prop} {Q : U → List U → Prop} (ho : o = some gcdS) (hx : 0 ≤ x) (hy : 0 ≤ y) (q : Q (.v (.int (Nat.gcd x.natAbs y.natAbs))) [.v (.int x), .v (.int y)]) : callP o [.v (.int x), .v (.int y)] Qx Q := by
  obtain ⟨a, rfl⟩ := Int.eq_ofNat_of_zero_le hx
  obtain ⟨b, rfl⟩ := Int.eq_ofNat_of_zero_le hy
  exact call_val (args := fun p : Nat × Nat => [.v (.int p.1), .v (.int p.2)]) ho (a, b) rfl trivial q
def Sm (b : Int) : Prop := b.natAbs.log2 < 9000
theorem Sm.le {a b : Int} (h0 : 0 ≤ a) (h : a ≤ b) (hb : Sm b) : Sm a := log_le (by omega) hb
theorem gcd_pos {t b : Int} (h : 0 < b) : (0 : Int) < (Nat.gcd t.natAbs b.natAbs : Nat) := by
  have := Nat.gcd_pos_of_pos_right t.natAbs (show 0 < b.natAbs by omega)
  omega
theorem gcd_le {t b : Int} (h : 0 < b) : ((Nat.gcd t.natAbs b.natAbs : Nat) : Int) ≤ b := by
  have := Nat.gcd_le_right t.natAbs (show 0 < b.natAbs by omega)
  omega
theorem divC_sm {b : Int} (h : 0 < b) (hb : Sm b) : divC b := ⟨h, .inr hb⟩
def mil (i : Nat) : Int := ((1000000 ^ i : Nat) : Int)
theorem mil_succ (i : Nat) : mil (i + 1) = mil i * 1000000 := by
  unfold mil
  rw [Nat.pow_succ, Int.natCast_mul]; rfl
theorem mil_pos (i : Nat) : 0 < mil i := by
  unfold mil
  have := Nat.pow_pos (n := i) (show 0 < 1000000 by decide)
  omega
theorem mil_le {i j : Nat} (h : i ≤ j) : mil i ≤ mil j := by
  unfold mil
  exact Int.ofNat_le.mpr (Nat.pow_le_pow_right (by decide) h)
theorem sm_mil : Sm (mil 31) := by
  unfold Sm mil
  rw [Int.natAbs_natCast]
  decide +kernel
theorem Sm.mil {b : Int} {i : Nat} (h0 : 0 ≤ b) (h : b ≤ GL.mil i) (hi : i ≤ 31) : Sm b := sm_mil.le h0 (Int.le_trans h (mil_le hi))

theorem inv_lt {a m : Int} (h : 1 ≤ m) : 0 ≤ invV a m ∧ invV a m < m := ⟨Int.emod_nonneg _ (by omega), Int.emod_lt_of_pos _ (by omega)⟩
theorem quo {w p : Int} (hp : 1 ≤ p) : 1 ≤ p / gI w p ∧ p / gI w p ≤ p ∧ gI w p ≤ p := by
  have g0 := gI_pos (w := w) (show 0 < p by omega)
  have g1 : gI w p ≤ p := Int.le_of_dvd (by omega) (gI_r w p)
  have := Int.ediv_pos_of_pos_of_dvd (show 0 < p by omega) (by omega) (gI_r w p)
  exact ⟨by omega, Int.ediv_le_self _ (by omega), g1⟩
theorem lcI_le {w p : Int} (hw : 0 < w) (hp : 1 ≤ p) : lcI w p ≤ w * p := by
  rw [lcI_eq hw (by omega)]
  exact Int.mul_le_mul_of_nonneg_left (quo hp).2.1 (by omega)
theorem mil_step {w p : Int} {i : Nat} (hw : 0 < w) (h : w ≤ mil i) (h1 : 1 ≤ p) (h2 : p ≤ 1000000) : lcI w p ≤ mil (i + 1) := by
  have := lcI_le hw h1
  have m2 : w * p ≤ w * 1000000 := Int.mul_le_mul_of_nonneg_left h2 (by omega)
  have e := mil_succ i
  omega
/-! all chores' period -/
def lcF : List Int → Int → Int
  | [], d => d
  | n :: ns, d => lcF ns (lcI d n)
theorem lcF_snoc (ns : List Int) (n d : Int) : lcF (ns ++ [n]) d = lcI (lcF ns d) n := by
  induction ns generalizing d with
  | nil => rfl
  | cons m ns ih => exact ih _
theorem lcF_all {ns : List Int} (h : ∀ p ∈ ns, 1 ≤ p ∧ p ≤ 1000000) : ∀ i, i ≤ ns.length → 0 < lcF (ns.take i) 1 ∧ lcF (ns.take i) 1 ≤ mil i
  | 0, _ => ⟨show (0 : Int) < 1 by decide, show (1 : Int) ≤ mil 0 by decide⟩
  | i + 1, hi => by
    have hx : ns[i]? = some ns[i] := List.getElem?_eq_getElem hi
    obtain ⟨g1, g2⟩ := h _ (List.getElem_mem hi)
    obtain ⟨a1, a2⟩ := lcF_all h i (by omega)
    rw [take_get hx, lcF_snoc]
    exact ⟨lcI_pos a1 (by omega), mil_step a1 a2 g1 g2⟩

/-! the common period -/
def Wn (ps : List Int) : Nat := (lcF ps 1).toNat
theorem lcF_pos {ps : List Int} (hp : PsOk ps) : 0 < lcF ps 1 ∧ lcF ps 1 ≤ mil 12 := by
  have := lcF_all hp.all ps.length (Nat.le_refl _)
  rw [List.take_length] at this
  exact ⟨this.1, Int.le_trans this.2 (mil_le hp.le)⟩
theorem Wn_eq {ps : List Int} (hp : PsOk ps) : (Wn ps : Int) = lcF ps 1 := Int.toNat_of_nonneg (Int.le_of_lt (lcF_pos hp).1)
theorem lcF_dvd : ∀ {ps : List Int} {d : Int}, d ∣ lcF ps d ∧ ∀ p ∈ ps, p ∣ lcF ps d
  | [], d => ⟨Int.dvd_refl _, fun p h => by cases h⟩
  | n :: ns, d => by
    obtain ⟨h1, h2⟩ := lcF_dvd (ps := ns) (d := lcI d n)
    refine ⟨Int.dvd_trans (lcI_l _ _) h1, fun p hp => ?_⟩
    rcases List.mem_cons.mp hp with rfl | hp
    · exact Int.dvd_trans (lcI_r _ _) h1
    · exact h2 p hp
theorem dvd_lcF {T : Int} : ∀ {ps : List Int} {d : Int}, d ∣ T → (∀ p ∈ ps, p ∣ T) → lcF ps d ∣ T
  | [], d, h, _ => h
  | n :: ns, d, h, hp => dvd_lcF (ps := ns) (lcI_dvd h (hp n List.mem_cons_self)) fun p hq => hp p (List.mem_cons_of_mem _ hq)
theorem Wn_dvd {ps : List Int} (hp : PsOk ps) : ∀ c, c < ps.length → at0 ps c ∣ (Wn ps : Int) := fun c hc => by
  rw [Wn_eq hp]
  exact lcF_dvd.2 _ (List.mem_of_getElem? (at_get hc))
theorem Wn_pos {ps : List Int} (hp : PsOk ps) : 0 < Wn ps := by
  have := (lcF_pos hp).1
  have := Wn_eq hp
  omega
def cpS : FS := valS (fun ps : List Int => [.v (gU ps)]) PsOk (fun ps => .int (lcF ps 1))
theorem w_common_period (ps : List Int) (hp : PsOk ps) : wpF (gam []) 60 b_common_period 3 [.v (gU ps)] (fun r us' => r = .v (.int (lcF ps 1)) ∧ us' = [.v (gU ps)]) (fun _ _ => False) := by
  have hl := hp.le
  walk_at "gm"
  refine forP_inv (fun i e => ∃ (w : Option U), e = [some (.v (gU ps)), some (.v (.int (lcF (ps.take i) 1))), w] ∧ Fre w) ⟨none, rfl, .no⟩ ?_ ?_
  · rintro i x e nx hx ⟨w, rfl, hw⟩ hn
    obtain ⟨n, hx0, rfl⟩ := map_at hx
    have hi : i < ps.length := (List.getElem?_eq_some_iff.mp hx0).1
    obtain ⟨n1, n2⟩ := hp.all n (List.mem_of_getElem? hx0)
    obtain ⟨a1, a2⟩ := lcF_all hp.all i (by omega)
    walk_at "gm"
    refine ckP_of ⟨Sm.mil (by omega) a2 (by omega), Sm.mil (i := 1) (by omega) (by show n ≤ 1000000; omega) (by omega)⟩ ?_
    walk_at "gm"
    rw [take_get hx0, lcF_snoc] at hn
    exact hn _ ⟨_, rfl, .v _⟩
  · rintro e ⟨w, rfl, hw⟩
    rw [List.length_map, List.take_length] at *
    walk_at "gm"
    exact ⟨rfl, rfl⟩

theorem lcI_eq2 {w p : Int} (hw : 0 < w) (hp : 0 < p) : w / gI w p * p = lcI w p := by
  rw [lcI_eq hw hp]
  have g0 := gI_pos (w := w) hp
  obtain ⟨q, hq⟩ := gI_r w p
  obtain ⟨a, ha⟩ := gI_l w p
  generalize gI w p = g at *
  have e1 : p / g = q := by rw [hq]; exact Int.mul_ediv_cancel_left _ (by omega)
  have e2 : w / g = a := by rw [ha]; exact Int.mul_ediv_cancel_left _ (by omega)
  rw [e1, e2, hq, ha, Int.mul_comm g a, Int.mul_assoc]
theorem w_l_common (ps : List Int) (hp : PsOk ps) : wpF (gam [gcdS]) 60 b_l_common 3 [.v (gU ps)] (fun r us' => r = .v (.int (lcF ps 1)) ∧ us' = [.v (gU ps)]) (fun _ _ => False) := by
  have hl := hp.le
  walk_at "gm"
  refine forP_inv (fun i e => ∃ (w : Option U), e = [some (.v (gU ps)), some (.v (.int (lcF (ps.take i) 1))), w] ∧ Fre w) ⟨none, rfl, .no⟩ ?_ ?_
  · rintro i x e nx hx ⟨w, rfl, hw⟩ hn
    obtain ⟨n, hx0, rfl⟩ := map_at hx
    have hi : i < ps.length := (List.getElem?_eq_some_iff.mp hx0).1
    obtain ⟨n1, n2⟩ := hp.all n (List.mem_of_getElem? hx0)
    obtain ⟨a1, a2⟩ := lcF_all hp.all i (by omega)
    have g0 := gI_pos (w := lcF (ps.take i) 1) (show 0 < n by omega)
    have g1 := (quo (w := lcF (ps.take i) 1) n1).2.2
    walk_at "gm"
    refine call_common rfl (by omega) (by omega) ?_
    rw [show ((Nat.gcd (lcF (ps.take i) 1).natAbs n.natAbs : Nat) : Int) = gI (lcF (ps.take i) 1) n from rfl]
    walk_at "gm"
    refine ckP_of (divC_of g0 (by omega)) ?_
    walk_at "gm"
    refine ckP_of (mulC_r (by omega) (by omega)) ?_
    walk_at "gm"
    rw [take_get hx0, lcF_snoc] at hn
    rw [lcI_eq2 a1 (by omega)]
    exact hn _ ⟨_, rfl, .v _⟩
  · rintro e ⟨w, rfl, hw⟩
    rw [List.length_map, List.take_length] at *
    walk_at "gm"
    exact ⟨rfl, rfl⟩
theorem w_l_agrees (ps bs : List Int) (i j : Nat) (hp : PsOk ps) (hl : bs.length ≤ ps.length) (hib : i < bs.length) (hjb : j < bs.length) : wpF (gam [gcdS]) 60 b_l_agrees 4 [.v (gU ps), .v (gU bs), .v (.int i), .v (.int j)] (fun r us' => r = .v (.bool (mtB ps bs i j)) ∧ us' = [.v (gU ps), .v (gU bs), .v (.int i), .v (.int j)]) (fun _ _ => False) := by
  have hi : i < ps.length := by omega
  have hj : j < ps.length := by omega
  have p0 := hp.at0 hj
  have p1 := hp.at0 hi
  walk_at "gm"
  refine optP_of (ixU hib) ?_
  walk_at "gm"
  refine optP_of (ixU hjb) ?_
  walk_at "gm"
  refine optP_of (ixU hi) ?_
  walk_at "gm"
  refine optP_of (ixU hj) ?_
  walk_at "gm"
  refine call_common rfl (by omega) (by omega) ?_
  rw [show ((Nat.gcd (at0 ps i).natAbs (at0 ps j).natAbs : Nat) : Int) = gI (at0 ps i) (at0 ps j) from rfl]
  walk_at "gm"
  refine ckP_of (gI_pos (show 0 < at0 ps j by omega)) ?_
  walk_at "gm"
  rw [eqv_int]
  exact ⟨rfl, rfl⟩
/-! fractions -/
def frD (t b : Int) : PyData := .tuple [.int (t / gI t b), .int (b / gI t b)]
def frU (a : Int × Int) : List U := [.v (.int a.1), .v (.int a.2)]
def frS : FS := valS frU (fun a => 0 ≤ a.1 ∧ 0 < a.2 ∧ Sm a.2) (fun a => frD a.1 a.2)
theorem w_fraction (t b : Int) (h1 : 0 ≤ t) (h2 : 0 < b) (h3 : Sm b) : wpF (gam []) 60 b_fraction 3 [.v (.int t), .v (.int b)] (fun r us' => r = .v (frD t b) ∧ us' = [.v (.int t), .v (.int b)]) (fun _ _ => False) := by
  have g1 := gcd_pos (t := t) h2
  have g2 := gcd_le (t := t) h2
  walk_at "gm"
  refine ckP_of (divC_sm g1 (h3.le (by omega) g2)) ?_
  walk_at "gm"
  refine ckP_of (divC_sm g1 (h3.le (by omega) g2)) ?_
  walk_at "gm"
  exact ⟨rfl, rfl⟩
theorem w_l_fraction (t b : Int) (h1 : 0 ≤ t) (h2 : 0 < b) (h3 : Sm b) : wpF (gam [gcdS]) 60 b_l_fraction 3 [.v (.int t), .v (.int b)] (fun r us' => r = .v (frD t b) ∧ us' = [.v (.int t), .v (.int b)]) (fun _ _ => False) := by
  have g1 := gcd_pos (t := t) h2
  have g2 := gcd_le (t := t) h2
  have g3 : ((Nat.gcd b.natAbs t.natAbs : Nat) : Int) = gI t b := by unfold gI; rw [Nat.gcd_comm]
  have g4 : ((Nat.gcd t.natAbs b.natAbs : Nat) : Int) = gI t b := rfl
  rw [g4] at g1 g2
  walk_at "gm"
  rw [if_neg (by omega)]
  refine call_common rfl (by omega) h1 ?_
  rw [g3]
  walk_at "gm"
  have e : (if gI t b > 1 then gI t b else 1) = gI t b := by split <;> omega
  rw [e]
  refine ckP_of (divC_sm g1 (h3.le (by omega) g2)) ?_
  walk_at "gm"
  refine ckP_of (divC_sm g1 (h3.le (by omega) g2)) ?_
  walk_at "gm"
  exact ⟨rfl, rfl⟩
end GL

set_option maxRecDepth 100000
set_option maxHeartbeats 0
namespace GL
open PySem PySem.Spec PyProof.Rows L2 GM
local macro_rules | `(tactic| walk_at "gw") => `(tactic| conv => whnf)
local macro_rules | `(tactic| walk_at "g1") => `(tactic| first | refine optP_of rfl ?_ | (apply envP_of; focus ((try simp only [GM.start, List.map, List.length, List.reduceReplicate, Nat.reduceAdd, Nat.reduceSub, List.cons_append, List.nil_append, GM.put, GM.wb, GM.putR, GM.updE, GM.putF, GM.puts, GM.wipes, GM.get, List.reverse_cons, List.reverse_nil]); exact rfl)) | (refine ckP_of ?_ ?_; exact True.intro) | (refine ckP_of ?_ ?_; exact rfl) | (refine ckP_of ?_ ?_; exact ⟨rfl, rfl⟩) | (refine ckP_of ?_ ?_; exact ⟨True.intro, True.intro⟩) | (refine ckP_of ?_ ?_; exact asg_fr (by assumption) rfl) | (refine ckP_of ?_ ?_; exact ⟨asg_fr (by assumption) rfl, True.intro⟩) | refine brP_t rfl ?_ | refine brP_f rfl ?_ | fail)
local macro_rules | `(tactic| walk_at "gm") => `(tactic| (walk_at "gw"; repeat' (walk_at "g1"; walk_at "gw")))
open CR
/-! the share of idle days -/
def isU (a : List Int × List Int) : List U := [.v (gU a.1), .v (gU a.2)]
def PbOk (a : List Int × List Int) : Prop := PsOk a.1 ∧ BsOk a.1 a.2 ∧ 1 ≤ a.1.length
def shD (ps bs : List Int) : PyData := frD (idleN ps bs (Wn ps)) (Wn ps)
def isS : FS := valS isU PbOk (fun a => shD a.1 a.2)
theorem wOf_snoc (ps : List Int) (l : List Nat) (c : Nat) (w : Int) : wOf ps (l ++ [c]) w = lcI (wOf ps l w) (at0 ps c) := by rw [wOf_app]; rfl
theorem sgn_odd {l : List Nat} (h : (l.length : Int) % 2 = 1) : sgn l = -1 := if_neg (by omega)
theorem sgn_even {l : List Nat} (h : ¬ (l.length : Int) % 2 = 1) : sgn l = 1 := if_pos (by omega)
theorem mlots_mem {ps bs : List Int} {l : List Nat} (h : l ∈ mlots ps bs) : (∀ c ∈ l, c < ps.length) ∧ l.length ≤ ps.length := by
  have := lotsF_mem _ _ l (List.mem_filter.mp h).1
  rw [List.length_range] at this
  exact ⟨fun c hc => List.mem_range.mp (this.1 c hc), this.2⟩
theorem w_idle_share (ps bs : List Int) (hp : PsOk ps) (hb : BsOk ps bs) : wpF (gam [cpS, mlS, frS]) 60 b_idle_share 8 [.v (gU ps), .v (gU bs)] (fun r us' => r = .v (shD ps bs) ∧ us' = [.v (gU ps), .v (gU bs)]) (fun _ _ => False) := by
  have hl := hp.le
  obtain ⟨w0, w1⟩ := lcF_pos hp
  have hml := mlots_le (bs := bs) hl
  have hW := Wn_eq hp
  have hsm : Sm (Wn ps : Int) := by rw [hW]; exact Sm.mil (by omega) w1 (by decide)
  have hsh := prog_sum ps bs (Wn ps)
  rw [idle_share_eq hp hb (Wn_dvd hp)] at hsh
  walk_at "gm"
  refine call_val (args := fun ps : List Int => [.v (gU ps)]) rfl ps rfl hp ?_
  rw [← hW]
  walk_at "gm"
  refine callP_of mlS rfl (ps, bs) rfl ⟨hp, hb.len⟩ ?_ fun _ _ h => h.elim
  rintro r us' ⟨rfl, rfl⟩
  walk_at "gm"
  refine forP_inv (fun i e => ∃ (a b c d : Option U), e = [some (.v (gU ps)), some (.v (gU bs)), some (.v (.int (Wn ps))), some (.v (.int ((Wn ps : Int) + sumI (fun l => sgn l * ((Wn ps : Int) / wOf ps l 1)) ((mlots ps bs).take i)))), a, b, c, d] ∧ Fre a ∧ Fre b ∧ Fre c ∧ Fre d) ⟨_, _, _, _, by rw [List.take_zero, sumI_nil, Int.add_zero], .no, .no, .no, .no⟩ ?_ ?_
  · rintro i x e nx hx ⟨a, b, c, d, rfl, ha, hb9, hc, hd⟩ hn
    obtain ⟨l, hl0, rfl⟩ := map_at hx
    obtain ⟨lm, ll⟩ := mlots_mem (ps := ps) (bs := bs) (List.mem_of_getElem? hl0)
    rw [take_get hl0, sumI_app, sumI_cons, sumI_nil, Int.add_zero, ← Int.add_assoc] at hn
    generalize (Wn ps : Int) + sumI (fun l => sgn l * ((Wn ps : Int) / wOf ps l 1)) ((mlots ps bs).take i) = s at *
    walk_at "gm"
    refine forP_inv (fun j e => ∃ (c : Option U), e = [some (.v (gU ps)), some (.v (gU bs)), some (.v (.int (Wn ps))), some (.v (.int s)), some (.v (lU l)), some (.v (.int (wOf ps (l.take j) 1))), c, d] ∧ Fre c ∧ 0 < wOf ps (l.take j) 1 ∧ wOf ps (l.take j) 1 ≤ mil j) ⟨_, rfl, hc, show (0 : Int) < 1 by decide, show (1 : Int) ≤ mil 0 by decide⟩ ?_ ?_
    · rintro j y e nx2 hy ⟨c, rfl, hc, v0, v1⟩ hn2
      obtain ⟨k, hk0, rfl⟩ := map_at hy
      have hj : j < l.length := (List.getElem?_eq_some_iff.mp hk0).1
      have hk := lm k (List.mem_of_getElem? hk0)
      obtain ⟨p0, p1⟩ := hp.at0 hk
      rw [take_get hk0, wOf_snoc] at hn2
      walk_at "gm"
      refine optP_of (ixU hk) ?_
      walk_at "gm"
      refine ckP_of ⟨Sm.mil (by omega) v1 (by omega), Sm.mil (i := 1) (by omega) (by show at0 ps k ≤ 1000000; omega) (by omega)⟩ ?_
      walk_at "gm"
      exact hn2 _ ⟨_, rfl, .v _, lcI_pos v0 (by omega), mil_step v0 v1 p0 p1⟩
    · rintro e ⟨c, rfl, hc, v0, v1⟩
      rw [List.length_map, List.take_length] at *
      walk_at "gm"
      refine ckP_of (divC_sm v0 (Sm.mil (by omega) v1 (by omega))) ?_
      walk_at "gm"
      refine ckP_of (show (0 : Int) < 2 by decide) ?_
      walk_at "gm"
      rw [List.length_map, eqv_int]
      refine brP_of (fun q => ?_) fun q => ?_
      · have q : (l.length : Int) % 2 = 1 := of_decide_eq_true q
        rw [sgn_odd q] at hn
        walk_at "gm"
        rw [show s - (Wn ps : Int) / wOf ps l 1 = s + -1 * ((Wn ps : Int) / wOf ps l 1) by omega]
        exact hn _ ⟨_, _, _, _, rfl, .v _, .v _, hc, .v _⟩
      · have q : ¬ (l.length : Int) % 2 = 1 := of_decide_eq_false q
        rw [sgn_even q, Int.one_mul] at hn
        walk_at "gm"
        exact hn _ ⟨_, _, _, _, rfl, .v _, .v _, hc, .v _⟩
  · rintro e ⟨a, b, c, d, rfl, ha, hb9, hc, hd⟩
    have e3 : (mlots ps bs).take (lotsD (mlots ps bs)).length = mlots ps bs := by unfold lotsD; rw [List.length_map, List.take_length]
    rw [e3, hsh]
    walk_at "gm"
    refine call_val (args := frU) rfl ((idleN ps bs (Wn ps) : Int), (Wn ps : Int)) rfl ⟨Int.natCast_nonneg _, by have := Wn_pos hp; show (0 : Int) < Wn ps; omega, hsm⟩ ?_
    walk_at "gm"
    exact ⟨rfl, rfl⟩
theorem fr_one {t b : Int} (h0 : 0 ≤ t) (hb : 0 < b) : PyData.eqv (frD t b) (.tuple [.int 0, .int 1]) = decide (t = 0) := by
  have g0 := gI_pos (w := t) hb
  obtain ⟨q, hq⟩ := gI_l t b
  unfold frD
  by_cases h : t = 0
  · subst h
    have e : gI 0 b = b := by unfold gI; rw [Int.natAbs_zero, Nat.gcd_zero_left]; omega
    rw [e, Int.zero_ediv, Int.ediv_self (by omega)]
    decide
  · have e1 : t / gI t b = q := by
      rw [Int.ediv_eq_of_eq_mul_right (by omega) hq]
    have hq0 : q ≠ 0 := by
      rintro rfl
      rw [Int.mul_zero] at hq
      exact h hq
    rw [e1, decide_eq_false h]
    simp [PyData.eqv, PyData.eqvAll, hq0]
def ecS : FS := valS isU PbOk (fun a => .bool (exactB a.1 a.2 (Wn a.1)))
theorem w_is_exact_cover (ps bs : List Int) (hp : PsOk ps) (hb : BsOk ps bs) (h1 : 1 ≤ ps.length) : wpF (gam [isS, moS]) 60 b_is_exact_cover 2 [.v (gU ps), .v (gU bs)] (fun r us' => r = .v (.bool (exactB ps bs (Wn ps))) ∧ us' = [.v (gU ps), .v (gU bs)]) (fun _ _ => False) := by
  rw [exact_prog hp hb h1 (Wn_pos hp) (Wn_dvd hp)]
  walk_at "gm"
  refine call_val (args := fun a : List Int × List Int => [.v (gU a.1), .v (gU a.2)]) rfl (ps, bs) rfl ⟨⟨hp, hb.len⟩, h1⟩ ?_
  walk_at "gm"
  rw [eqv_int]
  refine brP_of (fun q => ?_) fun q => ?_
  · rw [q]
    walk_at "gm"
    refine call_val (args := isU) rfl (ps, bs) rfl ⟨hp, hb, h1⟩ ?_
    walk_at "gm"
    have hW := Wn_pos hp
    rw [show shD ps bs = frD (idleN ps bs (Wn ps)) (Wn ps) from rfl, fr_one (Int.natCast_nonneg _) (by omega)]
    refine ⟨?_, rfl⟩
    rw [Bool.true_and]
    congr 2
    rw [decide_eq_decide]
    omega
  · rw [q]
    walk_at "gm"
    exact ⟨rfl, rfl⟩
/-! just one a day, as the law looks -/
theorem noMt_of {ps bs : List Int} : noMt ps bs = true ↔ ∀ i, i < ps.length → ∀ j, j < i → mtB ps bs i j = false := by
  unfold noMt
  rw [List.all_eq_true]
  constructor
  · intro h i hi j hj
    have := List.all_eq_true.mp (h i (List.mem_range.mpr hi)) j (List.mem_range.mpr hj)
    simpa using this
  · intro h i hi
    refine List.all_eq_true.mpr fun j hj => ?_
    rw [h i (List.mem_range.mp hi) j (List.mem_range.mp hj)]; rfl
theorem noMt_not {ps bs : List Int} {i j : Nat} (hi : i < ps.length) (hj : j < i) (h : mtB ps bs i j = true) : noMt ps bs = false := by
  cases e : noMt ps bs with
  | false => rfl
  | true => have := noMt_of.mp e i hi j hj; rw [h] at this; cases this
def agS : FS := valS mtU mtOk (fun a => .bool (mtB a.1 a.2.1 a.2.2.1 a.2.2.2))
def divD (W : Int) : PyData → PyData
  | .int p => .int (W / p)
  | d => d
theorem div_map (W : Int) (ps : List Int) : (ps.map PyData.int).map (divD W) = (ps.map fun p => W / p).map .int := by
  rw [List.map_map, List.map_map]; rfl
theorem bi_sum (ns : List Int) : biD .sum [.list (ns.map .int)] = some (.v (.int ns.sum)) := by simp [biD, seqD, ints_some]
theorem w_l_exact (ps bs : List Int) (hp : PsOk ps) (hb : BsOk ps bs) : wpF (gam [cpS, agS]) 60 b_l_exact 6 [.v (gU ps), .v (gU bs)] (fun r us' => r = .v (.bool (exactB ps bs (Wn ps))) ∧ us' = [.v (gU ps), .v (gU bs)]) (fun _ _ => False) := by
  have hl := hp.le
  obtain ⟨w0, w1⟩ := lcF_pos hp
  have hW := Wn_eq hp
  rw [exact_law hp hb (Wn_pos hp) (Wn_dvd hp)]
  walk_at "gm"
  refine call_val (args := fun ps : List Int => [.v (gU ps)]) rfl ps rfl hp ?_
  rw [← hW]
  walk_at "gm"
  refine ckP_of ⟨⟨True.intro, True.intro⟩, by rw [List.length_map]; unfold LIM; omega⟩ ?_
  refine compP_map (divD (Wn ps)) ?_ ?_
  · intro z hz nx hn
    obtain ⟨p, hp0, rfl⟩ := List.mem_map.mp hz
    obtain ⟨p1, p2⟩ := hp.all p hp0
    walk_at "gm"
    refine ckP_of (divC_of (by omega) (by omega)) ?_
    walk_at "gm"
    exact hn
  rw [div_map]
  walk_at "gm"
  refine optP_of (bi_sum _) ?_
  walk_at "gm"
  rw [eqv_int]
  refine brP_of (fun q => ?_) fun q => ?_
  · have q : ¬ (ps.map fun p => (Wn ps : Int) / p).sum = Wn ps := by simpa using q
    walk_at "gm"
    refine ⟨?_, rfl⟩
    rw [decide_eq_false (show ¬ sumI (fun p => (Wn ps : Int) / p) ps = Wn ps from q), Bool.false_and]
  · have q : (ps.map fun p => (Wn ps : Int) / p).sum = Wn ps := by simpa using q
    rw [decide_eq_true (show sumI (fun p => (Wn ps : Int) / p) ps = Wn ps from q), Bool.true_and]
    walk_at "gm"
    rw [List.length_map]
    refine ckP_of ⟨by omega, by omega⟩ ?_
    walk_at "gm"
    rw [Int.toNat_natCast]
    refine forP_inv (fun i e => ∃ (a b : Option U), e = [some (.v (gU ps)), some (.v (gU bs)), some (.v (.int (Wn ps))), none, a, b] ∧ Fre a ∧ Fre b ∧ ∀ k, k < i → ∀ j, j < k → mtB ps bs k j = false) ⟨_, _, rfl, .no, .no, fun k h => by omega⟩ ?_ ?_
    · rintro i x e nx hx ⟨a, b, rfl, ha, hb9, hi0⟩ hn
      obtain ⟨hi, rfl⟩ := rng_get hx
      rw [Int.zero_add] at *
      walk_at "gm"
      refine ckP_of ⟨by omega, by omega⟩ ?_
      walk_at "gm"
      rw [Int.toNat_natCast]
      refine forP_inv (fun j e => ∃ (b : Option U), e = [some (.v (gU ps)), some (.v (gU bs)), some (.v (.int (Wn ps))), none, some (.v (.int i)), b] ∧ Fre b ∧ ∀ k, k < j → mtB ps bs i k = false) ⟨_, rfl, hb9, fun k h => by omega⟩ ?_ ?_
      · rintro j y e nx2 hy ⟨b, rfl, hb9, hj0⟩ hn2
        obtain ⟨hj, rfl⟩ := rng_get hy
        rw [Int.zero_add] at *
        walk_at "gm"
        refine call_val (args := mtU) rfl (ps, bs, i, j) rfl ⟨hp, by show bs.length ≤ ps.length; rw [hb.len]; exact Nat.le_refl _, by show i < bs.length; rw [hb.len]; exact hi, by show j < bs.length; rw [hb.len]; omega⟩ ?_
        walk_at "gm"
        refine brP_of (fun q2 => ?_) fun q2 => ?_
        · walk_at "gm"
          exact ⟨by rw [noMt_not hi hj q2], rfl⟩
        · walk_at "gm"
          refine hn2 _ ⟨_, rfl, .v _, fun k hk => ?_⟩
          rcases Nat.lt_or_ge k j with z | z
          · exact hj0 k z
          · have : k = j := by omega
            subst this
            exact q2
      · rintro e ⟨b, rfl, hb9, hj0⟩
        rw [rngI_length] at hj0
        walk_at "gm"
        refine hn _ ⟨_, _, rfl, .v _, hb9, fun k hk j hj => ?_⟩
        rcases Nat.lt_or_ge k i with z | z
        · exact hi0 k z j hj
        · have : k = i := by omega
          subst this
          exact hj0 j hj
    · rintro e ⟨a, b, rfl, ha, hb9, hi0⟩
      rw [rngI_length] at hi0
      walk_at "gm"
      exact ⟨by rw [noMt_of.mpr hi0], rfl⟩
end GL

set_option maxRecDepth 100000
set_option maxHeartbeats 0
namespace GL
open PySem PySem.Spec PyProof.Rows L2 GM
local macro_rules | `(tactic| walk_at "gw") => `(tactic| conv => whnf)
local macro_rules | `(tactic| walk_at "g1") => `(tactic| first | refine optP_of rfl ?_ | (apply envP_of; focus ((try simp only [GM.start, List.map, List.length, List.reduceReplicate, Nat.reduceAdd, Nat.reduceSub, List.cons_append, List.nil_append, GM.put, GM.wb, GM.putR, GM.updE, GM.putF, GM.puts, GM.wipes, GM.get, List.reverse_cons, List.reverse_nil]); exact rfl)) | (refine ckP_of ?_ ?_; exact True.intro) | (refine ckP_of ?_ ?_; exact rfl) | (refine ckP_of ?_ ?_; exact ⟨rfl, rfl⟩) | (refine ckP_of ?_ ?_; exact ⟨True.intro, True.intro⟩) | (refine ckP_of ?_ ?_; exact asg_fr (by assumption) rfl) | (refine ckP_of ?_ ?_; exact ⟨asg_fr (by assumption) rfl, True.intro⟩) | refine brP_t rfl ?_ | refine brP_f rfl ?_ | fail)
local macro_rules | `(tactic| walk_at "gm") => `(tactic| (walk_at "gw"; repeat' (walk_at "g1"; walk_at "gw")))
open CR
/-! the law's inverse -/
theorem inv_uniq {a m t : Int} (hm : 0 < m) (hg : Int.gcd a m = 1) (h : m ∣ 1 - t * a) : t % m = invV a m := by
  have h2 := invV_ok hm hg
  obtain ⟨i0, i1⟩ := inv_lt (a := a) (show 1 ≤ m by omega)
  generalize invV a m = v at *
  have k : m ∣ t - v := by
    have e : t - v = t * (1 - v * a) - v * (1 - t * a) := by
      rw [Int.mul_sub, Int.mul_sub, Int.mul_one, Int.mul_one, Int.mul_left_comm t v a]
      omega
    rw [e]
    exact Int.dvd_sub (Int.dvd_trans h2 (Int.dvd_mul_left _ _)) (Int.dvd_trans h (Int.dvd_mul_left _ _))
  rw [Int.emod_eq_emod_iff_emod_sub_eq_zero.mpr (Int.emod_eq_zero_of_dvd k), Int.emod_eq_of_lt i0 i1]
def ivS : FS := valS (fun p : Int × Int => [.v (.int p.1), .v (.int p.2)]) (fun p => 1 ≤ p.2 ∧ p.2 ≤ 1000000 ∧ Int.gcd p.1 p.2 = 1) (fun p => .int (invV p.1 p.2))
theorem w_l_inverse (a m : Int) (h1 : 1 ≤ m) (h2 : m ≤ 1000000) (hg : Int.gcd a m = 1) : wpF (gam []) 60 b_l_inverse 7 [.v (.int a), .v (.int m)] (fun r us' => r = .v (.int (invV a m)) ∧ us' = [.v (.int a), .v (.int m)]) (fun _ _ => False) := by
  have m0 : 0 < m := by omega
  have l0 := Int.emod_nonneg a (show m ≠ 0 by omega)
  have l1 := Int.emod_lt_of_pos a m0
  walk_at "gm"
  refine ckP_of m0 ?_
  walk_at "gm"
  refine whileP_inv (fun mm e => ∃ (one oth t nt : Int) (c : Option U), e = [some (.v (.int a)), some (.v (.int m)), some (.v (.int one)), some (.v (.int oth)), some (.v (.int t)), some (.v (.int nt)), c] ∧ Fre c ∧ 0 ≤ one ∧ one ≤ m ∧ 0 ≤ oth ∧ oth ≤ m ∧ Int.gcd one oth = 1 ∧ m ∣ one - t * a ∧ m ∣ oth - nt * a ∧ mm = oth.toNat) m.toNat ⟨a % m, m, 1, 0, none, rfl, .no, l0, by omega, by omega, by omega, ?_, ?_, ?_, rfl⟩ ?_
  · have e := Int.gcd_sub_mul_right_right m a (a / m)
    rw [sub_mod] at e
    rw [Int.gcd_comm, e, Int.gcd_comm]; exact hg
  · rw [Int.one_mul]
    have := Int.emod_add_mul_ediv a m
    exact ⟨-(a / m), by rw [Int.mul_neg]; omega⟩
  · rw [Int.zero_mul, Int.sub_zero]; exact Int.dvd_refl _
  rintro mm e nx ⟨one, oth, t, nt, c, rfl, hc, a0, a1, a2, a3, a4, a5, a6, rfl⟩ hn
  walk_at "gm"
  refine brP_of (fun h => ?_) fun h => ?_
  · have h : 0 < oth := of_decide_eq_true h
    have q0 : 0 ≤ one / oth := Int.ediv_nonneg (by omega) (by omega)
    have q1 : one / oth ≤ one := Int.ediv_le_self _ (by omega)
    have r0 := Int.emod_nonneg one (show oth ≠ 0 by omega)
    have r1 := Int.emod_lt_of_pos one h
    have sm := sub_mod one oth
    walk_at "gm"
    refine ckP_of (divC_of (by omega) (by omega)) ?_
    walk_at "gm"
    refine ckP_of (mulC_l q0 (by omega)) ?_
    walk_at "gm"
    refine ckP_of (mulC_l q0 (by omega)) ?_
    walk_at "gm"
    refine hn (one - one / oth * oth).toNat _ (by omega) ⟨oth, one - one / oth * oth, nt, t - one / oth * nt, _, rfl, .v _, by omega, by omega, by omega, by omega, ?_, a6, ?_, rfl⟩
    · rw [Int.gcd_sub_mul_right_right, Int.gcd_comm]; exact a4
    · have : one - one / oth * oth - (t - one / oth * nt) * a = (one - t * a) - one / oth * (oth - nt * a) := by
        rw [Int.sub_mul, Int.mul_sub, Int.mul_assoc]; omega
      rw [this]
      exact Int.dvd_sub a5 (Int.dvd_trans a6 (Int.dvd_mul_left _ _))
  · have h : ¬ 0 < oth := of_decide_eq_false h
    have h0 : oth = 0 := by omega
    subst h0
    rw [Int.gcd_zero_right] at a4
    have h3 : one = 1 := by omega
    subst h3
    walk_at "gm"
    refine ckP_of m0 ?_
    walk_at "gm"
    exact ⟨congrArg (fun x => U.v (.int x)) (inv_uniq m0 hg a5), rfl⟩
/-! where all of a lot meet -/
theorem split_at {α : Type} {xs : List α} {i : Nat} {x : α} (h : xs[i]? = some x) : xs = xs.take i ++ x :: xs.drop (i + 1) := by
  have hi := (List.getElem?_eq_some_iff.mp h).1
  have e : xs.drop i = x :: xs.drop (i + 1) := by
    rw [List.drop_eq_getElem_cons hi]
    congr 1
    rw [List.getElem?_eq_getElem hi] at h
    exact Option.some.inj h
  conv => lhs; rw [← List.take_append_drop i xs, e]
def mdU (ps bs : List Int) (lot : List Nat) : U := match mdS ps bs lot 0 1 with
  | none => .v .none
  | some p => .o [.int p.1, .int p.2]
theorem md_stop {ps bs : List Int} {lot : List Nat} {i c : Nat} {d w : Int} (h : lot[i]? = some c) (hs : mdS ps bs (lot.take i) 0 1 = some (d, w)) (hn : nxt d w (at0 bs c) (at0 ps c) = none) : mdU ps bs lot = .v .none := by
  have : mdS ps bs lot 0 1 = none := by
    rw [split_at h, mdS_app, hs]
    show (match nxt d w (at0 bs c) (at0 ps c) with | none => none | some d' => mdS ps bs (lot.drop (i + 1)) d' (lcI w (at0 ps c))) = none
    rw [hn]
  unfold mdU
  rw [this]
theorem md_go {ps bs : List Int} {lot : List Nat} {i c : Nat} {d w x : Int} (h : lot[i]? = some c) (hs : mdS ps bs (lot.take i) 0 1 = some (d, w)) (hn : nxt d w (at0 bs c) (at0 ps c) = some x) : mdS ps bs (lot.take (i + 1)) 0 1 = some (x, lcI w (at0 ps c)) := by
  rw [take_get h, mdS_app, hs]
  show (match nxt d w (at0 bs c) (at0 ps c) with | none => none | some d' => mdS ps bs [] d' (lcI w (at0 ps c))) = _
  rw [hn]; rfl
def meU (a : List Int × List Int × List Nat) : List U := [.v (gU a.1), .v (gU a.2.1), .v (.list (a.2.2.map nI))]
def meS : FS := { α := List Int × List Int × List Nat, args := meU, pre := fun a => PsOk a.1 ∧ BsOk a.1 a.2.1 ∧ (∀ c ∈ a.2.2, c < a.1.length) ∧ a.2.2.length ≤ 12, post := fun a r us' => r = mdU a.1 a.2.1 a.2.2 ∧ us' = meU a }
theorem cop_ed {w p : Int} (hp : 1 ≤ p) : Int.gcd (w / gI w p) (p / gI w p) = 1 := Int.gcd_ediv_gcd_ediv_gcd (by
  have := Nat.gcd_pos_of_pos_right w.natAbs (show 0 < p.natAbs by omega)
  exact this)
theorem w_l_meeting (ps bs : List Int) (lot : List Nat) (hp : PsOk ps) (hb : BsOk ps bs) (hm : ∀ c ∈ lot, c < ps.length) (li : lot.length ≤ 12) : wpF (gam [gcdS, ivS]) 60 b_l_meeting 9 [.v (gU ps), .v (gU bs), .v (.list (lot.map nI))] (fun r us' => r = mdU ps bs lot ∧ us' = [.v (gU ps), .v (gU bs), .v (.list (lot.map nI))]) (fun _ _ => False) := by
  walk_at "gm"
  refine forP_inv (fun i e => ∃ (d w : Int) (a b c f : Option U), e = [some (.v (gU ps)), some (.v (gU bs)), some (.v (.list (lot.map nI))), some (.v (.int d)), some (.v (.int w)), a, b, c, f] ∧ Fre a ∧ Fre b ∧ Fre c ∧ Fre f ∧ mdS ps bs (lot.take i) 0 1 = some (d, w) ∧ 0 ≤ d ∧ d < w ∧ w ≤ mil i) ⟨0, 1, _, _, _, _, rfl, .no, .no, .no, .no, by rw [List.take_zero]; rfl, by decide, by decide, show (1 : Int) ≤ mil 0 by decide⟩ ?_ ?_
  · rintro i x e nx hx ⟨d, w, a, b, c9, f, rfl, ha, hb9, hc9, hf9, hs, d0, d1, wm⟩ hn
    obtain ⟨c, hx0, rfl⟩ := map_at hx
    have hi : i < lot.length := (List.getElem?_eq_some_iff.mp hx0).1
    have hc := hm c (List.mem_of_getElem? hx0)
    have hcb : c < bs.length := by rw [hb.len]; exact hc
    obtain ⟨p0, p1⟩ := hp.at0 hc
    obtain ⟨b0, b1⟩ := hb.all c hc
    have w0 : 0 < w := by omega
    have g0 := gI_pos (w := w) (show 0 < at0 ps c by omega)
    obtain ⟨q1, q2, g1⟩ := quo (w := w) p0
    have dg : divC (gI w (at0 ps c)) := divC_of g0 (by omega)
    walk_at "gm"
    refine optP_of (ixU hc) ?_
    walk_at "gm"
    refine call_common rfl (by omega) (by omega) ?_
    rw [show ((Nat.gcd w.natAbs (at0 ps c).natAbs : Nat) : Int) = gI w (at0 ps c) from rfl]
    walk_at "gm"
    refine optP_of (ixU hcb) ?_
    walk_at "gm"
    refine ckP_of g0 ?_
    walk_at "gm"
    rw [eqv_int]
    refine brP_of (fun q => ?_) fun q => ?_
    · have q : ¬ (at0 bs c - d) % gI w (at0 ps c) = 0 := by simpa using q
      walk_at "gm"
      exact ⟨(md_stop hx0 hs (by unfold nxt; rw [if_neg q])).symm, rfl⟩
    · have q : (at0 bs c - d) % gI w (at0 ps c) = 0 := by simpa using q
      have hq : nxt d w (at0 bs c) (at0 ps c) = some (d + w * ((at0 bs c - d) / gI w (at0 ps c) * invV (w / gI w (at0 ps c)) (at0 ps c / gI w (at0 ps c)) % (at0 ps c / gI w (at0 ps c)))) := by unfold nxt; rw [if_pos q]
      obtain ⟨x0, x1, _, _⟩ := nxt_ok w0 (show 0 < at0 ps c by omega) b0 b1 d0 d1 hq
      walk_at "gm"
      refine ckP_of dg ?_
      walk_at "gm"
      refine optP_of (ixU hcb) ?_
      walk_at "gm"
      refine ckP_of dg ?_
      walk_at "gm"
      refine ckP_of dg ?_
      walk_at "gm"
      refine call_val (args := fun p : Int × Int => [.v (.int p.1), .v (.int p.2)]) rfl (w / gI w (at0 ps c), at0 ps c / gI w (at0 ps c)) rfl ⟨q1, by show at0 ps c / gI w (at0 ps c) ≤ 1000000; omega, cop_ed p0⟩ ?_
      walk_at "gm"
      obtain ⟨i0, i1⟩ := inv_lt (a := w / gI w (at0 ps c)) q1
      refine ckP_of (mulC_r i0 (Int.lt_trans i1 (by omega))) ?_
      walk_at "gm"
      refine ckP_of (show 0 < at0 ps c / gI w (at0 ps c) by omega) ?_
      walk_at "gm"
      refine ckP_of (mulC_r (Int.emod_nonneg _ (by show at0 ps c / gI w (at0 ps c) ≠ 0; omega)) (Int.lt_trans (Int.emod_lt_of_pos _ (show 0 < at0 ps c / gI w (at0 ps c) by omega)) (by show at0 ps c / gI w (at0 ps c) < _; omega))) ?_
      walk_at "gm"
      refine ckP_of (mulC_r (by omega) (by omega)) ?_
      walk_at "gm"
      rw [← lcI_eq w0 (show 0 < at0 ps c by omega)]
      exact hn _ ⟨_, lcI w (at0 ps c), _, _, _, _, rfl, .v _, .v _, .v _, .v _, md_go hx0 hs hq, x0, x1, mil_step w0 wm p0 p1⟩
  · rintro e ⟨d, w, a, b, c9, f, rfl, ha, hb9, hc9, hf9, hs, d0, d1, wm⟩
    rw [List.length_map, List.take_length] at hs
    walk_at "gm"
    refine ⟨?_, rfl⟩
    unfold mdU
    rw [hs]
/-! the law's share -/
theorem fit_of {ps bs : List Int} (hp : PsOk ps) (hb : BsOk ps bs) {l : List Nat} (hm : ∀ c ∈ l, c < ps.length) : Fit ps bs l := fun c hc => by
  have h1 := hp.at0 (hm c hc)
  have h2 := hb.all c (hm c hc)
  exact ⟨by omega, h2.1, h2.2⟩
theorem md_part_n {ps bs : List Int} (hp : PsOk ps) (hb : BsOk ps bs) {l : List Nat} (hm : ∀ c ∈ l, c < ps.length) {W : Int} (h : mdS ps bs l 0 1 = none) : partI ps bs W l = 0 := by
  unfold partI
  rw [if_neg]
  intro h2
  refine md_none (pre := []) (lot := l) (d := 0) (w := 1) (fit_of hp hb hm) (by decide) (by decide) (by decide) rfl (fun c h => by cases h) (fun i j a b hi hj hij => ?_) h
  have hi : l[i]? = some a := hi
  have hj : l[j]? = some b := hj
  obtain ⟨li, ei⟩ := List.getElem?_eq_some_iff.mp hi
  obtain ⟨lj, ej⟩ := List.getElem?_eq_some_iff.mp hj
  have := List.pairwise_iff_getElem.mp h2 i j li lj hij
  rw [ei, ej] at this
  exact meets_comm (of_decide_eq_true this)
theorem md_part_s {ps bs : List Int} (hp : PsOk ps) (hb : BsOk ps bs) {l : List Nat} (hm : ∀ c ∈ l, c < ps.length) {W d w : Int} (h : mdS ps bs l 0 1 = some (d, w)) : partI ps bs W l = W / w ∧ w = wOf ps l 1 := by
  obtain ⟨_, _, _, _, h5, h6⟩ := md_ok (fit_of hp hb hm) (by decide) (by decide) (by decide) h
  unfold partI
  rw [if_pos, h5]
  · exact ⟨rfl, rfl⟩
  · exact List.Pairwise.imp_of_mem (R := fun _ _ => True) (fun ha hb _ => decide_eq_true (meet_of (h6 _ ha).2 (h6 _ hb).2)) (List.pairwise_of_forall (fun _ _ => trivial))
theorem band_bit {m c : Nat} : PyData.eqv (.int (Builtin.bitAnd ((m : Int) / 2 ^ ((c : Int)).toNat) 1)) (.int 1) = m.testBit c := by
  rw [eqv_int, Int.toNat_natCast]
  have e : (m : Int) / 2 ^ c = ((m / 2 ^ c : Nat) : Int) := by rw [Int.natCast_ediv, Int.natCast_pow]; rfl
  rw [e, Nat.testBit_eq_decide_div_mod_eq]
  generalize m / 2 ^ c = k
  have e2 : Builtin.bitAnd (k : Int) 1 = ((k &&& 1 : Nat) : Int) := by
    unfold Builtin.bitAnd
    rw [decide_eq_true (Int.natCast_nonneg k), decide_eq_true (show (0 : Int) ≤ 1 by decide)]
    rfl
  rw [e2, Nat.and_one_is_mod, decide_eq_decide]
  omega
def bitF (m : Nat) : PyData → Bool
  | .int c => m.testBit c.toNat
  | _ => false
theorem bit_map (n m : Nat) : ((rngI 0 n).filter (bitF m)).map (id : PyData → PyData) = (bits n m).map nI := by
  rw [List.map_id, rng_map, List.filter_map]
  rfl
end GL

set_option maxRecDepth 100000
set_option maxHeartbeats 0
namespace GL
open PySem PySem.Spec PyProof.Rows L2 GM
local macro_rules | `(tactic| walk_at "gw") => `(tactic| conv => whnf)
local macro_rules | `(tactic| walk_at "g1") => `(tactic| first | refine optP_of rfl ?_ | (apply envP_of; focus ((try simp only [GM.start, List.map, List.length, List.reduceReplicate, Nat.reduceAdd, Nat.reduceSub, List.cons_append, List.nil_append, GM.put, GM.wb, GM.putR, GM.updE, GM.putF, GM.puts, GM.wipes, GM.get, List.reverse_cons, List.reverse_nil]); exact rfl)) | (refine ckP_of ?_ ?_; exact True.intro) | (refine ckP_of ?_ ?_; exact rfl) | (refine ckP_of ?_ ?_; exact ⟨rfl, rfl⟩) | (refine ckP_of ?_ ?_; exact ⟨True.intro, True.intro⟩) | (refine ckP_of ?_ ?_; exact asg_fr (by assumption) rfl) | (refine ckP_of ?_ ?_; exact ⟨asg_fr (by assumption) rfl, True.intro⟩) | refine brP_t rfl ?_ | refine brP_f rfl ?_ | fail)
local macro_rules | `(tactic| walk_at "gm") => `(tactic| (walk_at "gw"; repeat' (walk_at "g1"; walk_at "gw")))
open CR
theorem bits_mem {n m : Nat} : (∀ c ∈ bits n m, c < n) ∧ (bits n m).length ≤ n := by
  unfold bits
  refine ⟨fun c hc => List.mem_range.mp (List.mem_filter.mp hc).1, ?_⟩
  have := List.length_filter_le (fun a => m.testBit a) (List.range n)
  rw [List.length_range] at this
  exact this
def lsT (ps bs : List Int) (k : Nat) : Int := sgn (bits ps.length (k + 1)) * partI ps bs (Wn ps) (bits ps.length (k + 1))
theorem w_l_share (ps bs : List Int) (hp : PsOk ps) (hb : BsOk ps bs) : wpF (gam [cpS, meS, frS]) 60 b_l_share 8 [.v (gU ps), .v (gU bs)] (fun r us' => r = .v (shD ps bs) ∧ us' = [.v (gU ps), .v (gU bs)]) (fun _ _ => False) := by
  have hl := hp.le
  obtain ⟨w0, w1⟩ := lcF_pos hp
  have hW := Wn_eq hp
  have hsm : Sm (Wn ps : Int) := by rw [hW]; exact Sm.mil (by omega) w1 (by decide)
  have hsh := law_sum ps bs (Wn ps)
  rw [idle_share_eq hp hb (Wn_dvd hp)] at hsh
  have hpw : 2 ^ ps.length ≤ 4096 := Nat.le_trans (Nat.pow_le_pow_right (by decide) hl) (show 2 ^ 12 ≤ 4096 by decide)
  have hp1 := Nat.two_pow_pos ps.length
  walk_at "gm"
  refine call_val (args := fun ps : List Int => [.v (gU ps)]) rfl ps rfl hp ?_
  rw [← hW]
  walk_at "gm"
  rw [List.length_map]
  refine ckP_of ⟨by omega, by omega, by decide⟩ ?_
  walk_at "gm"
  have hpow : (1 : Int) * 2 ^ ((ps.length : Int)).toNat = ((2 ^ ps.length : Nat) : Int) := by rw [Int.toNat_natCast, Int.one_mul, Int.natCast_pow]; rfl
  rw [hpow]
  have hsh : (Wn ps : Int) + sumI (lsT ps bs) (List.range (2 ^ ps.length - 1)) = idleN ps bs (Wn ps) := hsh
  generalize 2 ^ ps.length = N at *
  refine ckP_of ⟨by decide, by decide, by omega, by omega⟩ ?_
  walk_at "gm"
  rw [show ((N : Int) - 1).toNat = N - 1 by omega]
  refine forP_inv (fun i e => ∃ (a b c : Option U), e = [some (.v (gU ps)), some (.v (gU bs)), some (.v (.int (Wn ps))), some (.v (.int ((Wn ps : Int) + sumI (lsT ps bs) (List.range i)))), a, b, none, c] ∧ Fre a ∧ (Fre b ∨ ∃ l, b = some (.o l)) ∧ (Fre c ∨ ∃ l, c = some (.o l))) ⟨_, _, _, by rw [List.range_zero, sumI_nil, Int.add_zero], .no, .inl .no, .inl .no⟩ ?_ ?_
  · rintro i x e nx hx ⟨a, b, c, rfl, ha, hb9, hc⟩ hn
    obtain ⟨hi, rfl⟩ := rng_get hx
    rw [show (1 : Int) + (i : Int) = ((i + 1 : Nat) : Int) by omega]
    obtain ⟨bm, bl⟩ := bits_mem (n := ps.length) (m := i + 1)
    rw [List.range_succ, sumI_app, sumI_cons, sumI_nil, Int.add_zero, ← Int.add_assoc, show lsT ps bs i = sgn (bits ps.length (i + 1)) * partI ps bs (Wn ps) (bits ps.length (i + 1)) from rfl] at hn
    generalize (Wn ps : Int) + sumI (lsT ps bs) (List.range i) = s at *
    generalize i + 1 = m at *
    walk_at "gm"
    rw [List.length_map]
    refine ckP_of ⟨by omega, by omega⟩ ?_
    walk_at "gm"
    rw [Int.toNat_natCast]
    refine ckP_of ⟨⟨True.intro, True.intro⟩, by rw [rngI_length]; unfold LIM; omega⟩ ?_
    refine compP_filter (bitF m) id ?_ ?_
    · intro z hz nx2 hn2
      obtain ⟨k, hk⟩ := List.getElem?_of_mem hz
      obtain ⟨hk, rfl⟩ := rng_get hk
      rw [Int.zero_add] at *
      rw [show bitF m (.int (k : Int)) = m.testBit k by show m.testBit (k : Int).toNat = _; rw [Int.toNat_natCast]] at hn2
      walk_at "gm"
      refine ckP_of (Int.natCast_nonneg k) ?_
      walk_at "gm"
      rw [band_bit]
      refine brP_of (fun q => ?_) fun q => ?_
      · rw [q] at hn2
        walk_at "gm"
        exact hn2
      · rw [q] at hn2
        walk_at "gm"
        exact hn2
    rw [bit_map]
    walk_at "gm"
    refine ckP_of ⟨asg_b hb9, True.intro⟩ ?_
    walk_at "gm"
    refine callP_of meS rfl (ps, bs, bits ps.length m) rfl ⟨hp, hb, bm, by show (bits ps.length m).length ≤ 12; omega⟩ ?_ fun _ _ h => h.elim
    rintro r us' ⟨rfl, rfl⟩
    cases hmd : mdS ps bs (bits ps.length m) 0 1 with
    | none =>
      rw [show mdU (ps, bs, bits ps.length m).1 (ps, bs, bits ps.length m).2.1 (ps, bs, bits ps.length m).2.2 = .v .none by unfold mdU; rw [hmd]]
      rw [md_part_n hp hb bm hmd, Int.mul_zero, Int.add_zero] at hn
      walk_at "gm"
      refine ckP_of ⟨asg_b hc, True.intro⟩ ?_
      walk_at "gm"
      exact hn _ ⟨_, _, _, rfl, .v _, .inl (.v _), .inl (.v _)⟩
    | some q =>
      obtain ⟨d, w⟩ := q
      obtain ⟨e1, e2⟩ := md_part_s (W := Wn ps) hp hb bm hmd
      have hf := fit_of hp hb bm
      have hw0 : 0 < w := by rw [e2]; exact wOf_pos (fun c hc => (hf c hc).1) (by decide)
      have hwW : w ≤ Wn ps := by
        rw [e2]
        exact Int.le_of_dvd (by omega) (w_dvd (Int.one_dvd _) fun c hc => Wn_dvd hp c (bm c hc))
      have dw : divC w := divC_sm hw0 (hsm.le (by omega) hwW)
      rw [show mdU (ps, bs, bits ps.length m).1 (ps, bs, bits ps.length m).2.1 (ps, bs, bits ps.length m).2.2 = .o [.int d, .int w] by unfold mdU; rw [hmd]]
      rw [e1] at hn
      walk_at "gm"
      refine ckP_of ⟨asg_b hc, True.intro⟩ ?_
      walk_at "gm"
      refine ckP_of (show (0 : Int) < 2 by decide) ?_
      walk_at "gm"
      rw [List.length_map, eqv_int]
      refine brP_of (fun q => ?_) fun q => ?_
      · have q : ((bits ps.length m).length : Int) % 2 = 0 := of_decide_eq_true q
        rw [show sgn (bits ps.length m) = 1 from if_pos (by omega), Int.one_mul] at hn
        walk_at "gm"
        refine ckP_of dw ?_
        walk_at "gm"
        exact hn _ ⟨_, _, _, rfl, .v _, .inl (.v _), .inr ⟨_, rfl⟩⟩
      · have q : ¬ ((bits ps.length m).length : Int) % 2 = 0 := of_decide_eq_false q
        rw [show sgn (bits ps.length m) = -1 from if_neg (by omega), show (-1 : Int) * ((Wn ps : Int) / w) = 0 - (Wn ps : Int) / w by omega] at hn
        walk_at "gm"
        refine ckP_of dw ?_
        walk_at "gm"
        exact hn _ ⟨_, _, _, rfl, .v _, .inl (.v _), .inr ⟨_, rfl⟩⟩
  · rintro e ⟨a, b, c, rfl, ha, hb9, hc⟩
    rw [rngI_length, hsh]
    walk_at "gm"
    refine call_val (args := frU) rfl ((idleN ps bs (Wn ps) : Int), (Wn ps : Int)) rfl ⟨Int.natCast_nonneg _, by have := Wn_pos hp; show (0 : Int) < Wn ps; omega, hsm⟩ ?_
    walk_at "gm"
    exact ⟨rfl, rfl⟩
end GL

set_option maxRecDepth 100000
set_option maxHeartbeats 0
namespace GL
open PySem PySem.Spec PyProof.Rows L2 GM
local macro_rules | `(tactic| walk_at "gw") => `(tactic| conv => whnf)
local macro_rules | `(tactic| walk_at "g1") => `(tactic| first | refine optP_of rfl ?_ | (apply envP_of; focus ((try simp only [GM.start, List.map, List.length, List.reduceReplicate, Nat.reduceAdd, Nat.reduceSub, List.cons_append, List.nil_append, GM.put, GM.wb, GM.putR, GM.updE, GM.putF, GM.puts, GM.wipes, GM.get, List.reverse_cons, List.reverse_nil]); exact rfl)) | (refine ckP_of ?_ ?_; exact True.intro) | (refine ckP_of ?_ ?_; exact rfl) | (refine ckP_of ?_ ?_; exact ⟨rfl, rfl⟩) | (refine ckP_of ?_ ?_; exact ⟨True.intro, True.intro⟩) | (refine ckP_of ?_ ?_; exact asg_fr (by assumption) rfl) | (refine ckP_of ?_ ?_; exact ⟨asg_fr (by assumption) rfl, True.intro⟩) | refine brP_t rfl ?_ | refine brP_f rfl ?_ | fail)
local macro_rules | `(tactic| walk_at "gm") => `(tactic| (walk_at "gw"; repeat' (walk_at "g1"; walk_at "gw")))
open CR

def fstI : PyData → PyData
  | .tuple [a, _] => a
  | d => d
def onD (ps bs : List Int) (d : Int) : PyData → Bool
  | .tuple [.int i, .int p] => decide (d % p = at0 bs i.toNat)
  | _ => false
theorem zip_eq (ps : List Int) : (ps.map PyData.int).zipIdx.map D_pair = (List.range ps.length).map fun (c : Nat) => PyData.tuple [.int c, .int (at0 ps c)] := by
  apply List.ext_getElem?
  intro i
  rw [List.getElem?_map, List.getElem?_map, List.getElem?_zipIdx, List.getElem?_map]
  by_cases h : i < ps.length
  · rw [at_get h, List.getElem?_range h]
    simp [D_pair]
  · rw [List.getElem?_eq_none (by omega), List.getElem?_eq_none (by simp; omega)]; rfl

theorem day_z (ps bs : List Int) (d : Int) : (((ps.map PyData.int).zipIdx.map D_pair).filter (onD ps bs d)).map fstI = (dayL ps bs d).map nI := by
  rw [zip_eq, List.filter_map, List.map_map]
  rfl
def plU (a : List Int × List Int × Int) : List U := [.v (gU a.1), .v (gU a.2.1), .v (.int a.2.2)]
def plS : FS := valS plU (fun a => PsOk a.1 ∧ BsOk a.1 a.2.1) (fun a => lU (dayL a.1 a.2.1 a.2.2))
theorem w_period_lot (ps bs : List Int) (d : Int) (hp : PsOk ps) (hb : BsOk ps bs) : wpF (gam []) 60 b_period_lot 5 [.v (gU ps), .v (gU bs), .v (.int d)] (fun r us' => r = .v (lU (dayL ps bs d)) ∧ us' = [.v (gU ps), .v (gU bs), .v (.int d)]) (fun _ _ => False) := by
  have hl := hp.le
  have hbl := hb.len
  walk_at "gm"
  refine ckP_of ⟨⟨True.intro, True.intro, True.intro⟩, by simp; unfold LIM; omega⟩ ?_
  refine compP_filter (onD ps bs d) fstI ?_ ?_
  · intro z hz nx hn
    rw [zip_eq] at hz
    obtain ⟨c, hc, rfl⟩ := List.mem_map.mp hz
    have hc : c < ps.length := List.mem_range.mp hc
    have := hp.at0 hc
    rw [show onD ps bs d (.tuple [.int c, .int (at0 ps c)]) = decide (d % at0 ps c = at0 bs c) from rfl, show fstI (.tuple [.int c, .int (at0 ps c)]) = .int c from rfl] at hn
    walk_at "gm"
    refine ckP_of (show 0 < at0 ps c by omega) ?_
    walk_at "gm"
    refine optP_of (ixU (by omega)) ?_
    walk_at "gm"
    rw [eqv_int]
    refine brP_of (fun q => ?_) fun q => ?_
    · rw [q] at hn
      walk_at "gm"
      exact hn
    · rw [q] at hn
      walk_at "gm"
      exact hn
  rw [day_z]
  walk_at "gm"
  exact ⟨rfl, rfl⟩

/-! the first idle day -/
def idl (ps bs : List Int) (d : Nat) : Bool := (List.range ps.length).all fun c => !dayQ ps bs d c
def optD : Option Nat → PyData
  | none => .none
  | some d => .int d
def idD (ps bs : List Int) : PyData := optD ((List.range (Wn ps)).find? (idl ps bs))
def WkOk (a : List Int × List Int) : Prop := PsOk a.1 ∧ BsOk a.1 a.2 ∧ 1 ≤ a.1.length ∧ Wn a.1 ≤ 100000
def idS : FS := valS isU WkOk (fun a => idD a.1 a.2)
theorem idl_eq (ps bs : List Int) (d : Nat) : idl ps bs d = decide ((dayL ps bs d).length = 0) := idle_nil ps bs d
theorem w_idle_day (ps bs : List Int) (hp : PsOk ps) (hb : BsOk ps bs) (hW : Wn ps ≤ 100000) : wpF (gam [cpS, plS]) 60 b_idle_day 3 [.v (gU ps), .v (gU bs)] (fun r us' => r = .v (idD ps bs) ∧ us' = [.v (gU ps), .v (gU bs)]) (fun _ _ => False) := by
  have hWe := Wn_eq hp
  walk_at "gm"
  refine call_val (args := fun ps : List Int => [.v (gU ps)]) rfl ps rfl hp ?_
  rw [← hWe]
  walk_at "gm"
  refine ckP_of ⟨by omega, by omega⟩ ?_
  walk_at "gm"
  rw [Int.toNat_natCast]
  refine forP_inv (fun i e => ∃ (a : Option U), e = [some (.v (gU ps)), some (.v (gU bs)), a] ∧ Fre a ∧ ∀ k, k < i → idl ps bs k = false) ⟨_, rfl, .no, fun k h => by omega⟩ ?_ ?_
  · rintro i x e nx hx ⟨a, rfl, ha, hk⟩ hn
    obtain ⟨hi, rfl⟩ := rng_get hx
    rw [Int.zero_add] at *
    walk_at "gm"
    refine call_val (args := plU) rfl (ps, bs, (i : Int)) rfl ⟨hp, hb⟩ ?_
    walk_at "gm"
    rw [List.length_map, eqv_int]
    refine brP_of (fun q => ?_) fun q => ?_
    · have q : ((dayL ps bs (i : Int)).length : Int) = 0 := of_decide_eq_true q
      have q2 : idl ps bs i = true := by rw [idl_eq]; exact decide_eq_true (by omega)
      walk_at "gm"
      refine ⟨?_, rfl⟩
      have : (List.range (Wn ps)).find? (idl ps bs) = some i := by
        rw [List.find?_range_eq_some]
        exact ⟨q2, List.mem_range.mpr hi, fun j hj => by rw [hk j hj]; rfl⟩
      unfold idD
      rw [this]; rfl
    · have q : ¬ ((dayL ps bs (i : Int)).length : Int) = 0 := of_decide_eq_false q
      walk_at "gm"
      refine hn _ ⟨_, rfl, .v _, fun k hk2 => ?_⟩
      rcases Nat.lt_or_ge k i with z | z
      · exact hk k z
      · have : k = i := by omega
        subst this
        rw [idl_eq]
        exact decide_eq_false (by omega)
  · rintro e ⟨a, rfl, ha, hk⟩
    rw [rngI_length] at hk
    walk_at "gm"
    refine ⟨?_, rfl⟩
    have : (List.range (Wn ps)).find? (idl ps bs) = none := by
      rw [List.find?_range_eq_none]
      exact fun j hj => by rw [hk j hj]; rfl
    unfold idD
    rw [this]; rfl
/-! day by day -/
def cntD (ps bs : List Int) : PyData → PyData
  | .int d => .int (dayL ps bs d).length
  | d => d
def dayF (ps bs : List Int) (d : Nat) : PyData → Bool
  | .int c => dayQ ps bs d c.toNat
  | _ => false
theorem day_len (ps bs : List Int) (d : Nat) : (((rngI 0 ps.length).filter (dayF ps bs d)).map (id : PyData → PyData)).length = (dayL ps bs d).length := by
  rw [List.map_id, rng_map, List.filter_map, List.length_map]
  rfl
theorem cnt_map (ps bs : List Int) (L : Nat) : (rngI 0 L).map (cntD ps bs) = (dayCnt ps bs L).map .int := by
  rw [rng_map, List.map_map]
  unfold dayCnt
  rw [List.map_map]
  rfl
def idF (ps bs : List Int) : PyData → Bool
  | .int d => idl ps bs d.toNat
  | _ => false
def idleL (ps bs : List Int) (W : Nat) : List Nat := (List.range W).filter (idl ps bs)
theorem idle_map (ps bs : List Int) (W : Nat) : ((rngI 0 W).filter (idF ps bs)).map (id : PyData → PyData) = (idleL ps bs W).map nI := by
  rw [List.map_id, rng_map, List.filter_map]
  rfl
theorem idleL_len (ps bs : List Int) (W : Nat) : (idleL ps bs W).length = idleN ps bs W := by
  unfold idleL idleN
  rw [← List.countP_eq_length_filter]
  rfl
theorem idleL_head (ps bs : List Int) (W : Nat) : (idleL ps bs W).head? = (List.range W).find? (idl ps bs) := List.head?_filter ..
def neF : PyData → Bool
  | .int n => !decide (n = 1)
  | _ => false
theorem ne_map (l : List Int) : (((l.map PyData.int).filter neF).map (id : PyData → PyData)).length = (l.filter fun n => !decide (n = 1)).length := by
  rw [List.map_id, List.filter_map, List.length_map]
  rfl
theorem ne_exact (ps bs : List Int) (W : Nat) : decide (((((dayCnt ps bs W).filter fun n => !decide (n = 1)).length : Nat) : Int) = 0) = exactB ps bs W := by
  rw [Bool.eq_iff_iff, decide_eq_true_eq]
  unfold exactB
  rw [List.all_eq_true]
  have e : (((dayCnt ps bs W).filter fun n => !decide (n = 1)).length : Int) = 0 ↔ (dayCnt ps bs W).filter (fun n => !decide (n = 1)) = [] := by
    rw [← List.length_eq_zero_iff]; omega
  rw [e, List.filter_eq_nil_iff]
  unfold dayCnt
  constructor
  · intro h d hd
    have := h _ (List.mem_map.mpr ⟨d, hd, rfl⟩)
    refine decide_eq_true ?_
    simp at this
    omega
  · intro h n hn
    obtain ⟨d, hd, rfl⟩ := List.mem_map.mp hn
    have := of_decide_eq_true (h d hd)
    simp [this]
def bdS : FS := { α := List Int × List Int, args := isU, pre := WkOk, post := fun a r us' => r = .o [shD a.1 a.2, idD a.1 a.2, .bool (exactB a.1 a.2 (Wn a.1))] ∧ us' = isU a }
theorem w_l_by_days (ps bs : List Int) (hp : PsOk ps) (hb : BsOk ps bs) (hWk : Wn ps ≤ 100000) : wpF (gam [cpS, frS]) 60 b_l_by_days 8 [.v (gU ps), .v (gU bs)] (fun r us' => r = .o [shD ps bs, idD ps bs, .bool (exactB ps bs (Wn ps))] ∧ us' = [.v (gU ps), .v (gU bs)]) (fun _ _ => False) := by
  have hl := hp.le
  have hW := Wn_eq hp
  have hW0 := Wn_pos hp
  obtain ⟨w0, w1⟩ := lcF_pos hp
  have hsm : Sm (Wn ps : Int) := by rw [hW]; exact Sm.mil (by omega) w1 (by decide)
  have hcl : (dayCnt ps bs (Wn ps)).length = Wn ps := by unfold dayCnt; rw [List.length_map, List.length_range]
  walk_at "gm"
  refine call_val (args := fun ps : List Int => [.v (gU ps)]) rfl ps rfl hp ?_
  rw [← hW]
  walk_at "gm"
  refine ckP_of ⟨by omega, by omega⟩ ?_
  walk_at "gm"
  rw [Int.toNat_natCast]
  refine ckP_of ⟨⟨True.intro, True.intro⟩, by rw [rngI_length]; unfold LIM; omega⟩ ?_
  refine compP_map (cntD ps bs) ?_ ?_
  · intro z hz nx hn
    obtain ⟨d, hd⟩ := List.getElem?_of_mem hz
    obtain ⟨hdL, rfl⟩ := rng_get hd
    rw [Int.zero_add] at *
    walk_at "gm"
    rw [List.length_map]
    refine ckP_of ⟨by omega, by omega⟩ ?_
    walk_at "gm"
    rw [Int.toNat_natCast]
    refine ckP_of ⟨⟨True.intro, True.intro⟩, by rw [rngI_length]; unfold LIM; omega⟩ ?_
    refine compP_filter (dayF ps bs d) id ?_ ?_
    · intro w hw nx2 hn2
      obtain ⟨c, hc'⟩ := List.getElem?_of_mem hw
      obtain ⟨hcl, rfl⟩ := rng_get hc'
      rw [Int.zero_add] at *
      have p0 := hp.at0 hcl
      rw [show dayF ps bs d (.int (c : Int)) = dayQ ps bs d c by show dayQ ps bs d (c : Int).toNat = _; rw [Int.toNat_natCast]] at hn2
      walk_at "gm"
      refine optP_of (ixU hcl) ?_
      walk_at "gm"
      refine ckP_of (show 0 < at0 ps c by omega) ?_
      walk_at "gm"
      refine optP_of (ixU (by rw [hb.len]; exact hcl)) ?_
      walk_at "gm"
      rw [eqv_int]
      refine brP_of (fun q => ?_) fun q => ?_
      · have q : dayQ ps bs d c = true := q
        rw [q] at hn2
        walk_at "gm"
        exact hn2
      · have q : dayQ ps bs d c = false := q
        rw [q] at hn2
        walk_at "gm"
        exact hn2
    walk_at "gm"
    rw [day_len]
    exact hn
  rw [cnt_map]
  walk_at "gm"
  refine ckP_of ⟨by omega, by omega⟩ ?_
  walk_at "gm"
  rw [Int.toNat_natCast]
  refine ckP_of ⟨⟨True.intro, True.intro⟩, by rw [rngI_length]; unfold LIM; omega⟩ ?_
  refine compP_filter (idF ps bs) id ?_ ?_
  · intro z hz nx hn
    obtain ⟨d, hd⟩ := List.getElem?_of_mem hz
    obtain ⟨hdL, rfl⟩ := rng_get hd
    rw [Int.zero_add] at *
    have ix : idxD (.list ((dayCnt ps bs (Wn ps)).map .int)) (.int d) = some (.int (dayL ps bs d).length) := by
      refine idx_list (by omega) ?_
      unfold dayCnt
      rw [Int.toNat_natCast, List.getElem?_map, List.getElem?_map, List.getElem?_range hdL]
      rfl
    rw [show idF ps bs (.int (d : Int)) = decide (((dayL ps bs d).length : Int) = 0) by show idl ps bs (d : Int).toNat = _; rw [Int.toNat_natCast, idl_eq, decide_eq_decide]; omega] at hn
    walk_at "gm"
    refine optP_of ix ?_
    walk_at "gm"
    rw [eqv_int]
    refine brP_of (fun q => ?_) fun q => ?_
    · rw [q] at hn
      walk_at "gm"
      exact hn
    · rw [q] at hn
      walk_at "gm"
      exact hn
  rw [idle_map]
  walk_at "gm"
  rw [List.length_map, idleL_len]
  refine call_val (args := frU) rfl ((idleN ps bs (Wn ps) : Int), (Wn ps : Int)) rfl ⟨Int.natCast_nonneg _, by show (0 : Int) < Wn ps; omega, hsm⟩ ?_
  rw [show frD ((idleN ps bs (Wn ps) : Int), (Wn ps : Int)).1 ((idleN ps bs (Wn ps) : Int), (Wn ps : Int)).2 = shD ps bs from rfl]
  walk_at "gm"
  have hd : idD ps bs = optD (idleL ps bs (Wn ps)).head? := by unfold idD; rw [idleL_head]
  rw [hd]
  clear hd
  generalize idleL ps bs (Wn ps) = L at *
  refine brP_of (fun q => ?_) fun q => ?_
  · have q : (0 : Int) < ((L.map nI).length : Int) := of_decide_eq_true q
    rw [List.length_map] at q
    obtain ⟨g, G, rfl⟩ : ∃ g G, L = g :: G := List.exists_cons_of_length_pos (by omega)
    walk_at "gm"
    refine ckP_of ⟨⟨True.intro, True.intro⟩, by rw [List.length_map, hcl]; unfold LIM; omega⟩ ?_
    refine compP_filter neF id ?_ ?_
    · intro z hz nx hn
      obtain ⟨n, _, rfl⟩ := List.mem_map.mp hz
      rw [show neF (.int n) = !decide (n = 1) from rfl] at hn
      walk_at "gm"
      rw [eqv_int]
      refine brP_of (fun q => ?_) fun q => ?_
      · rw [q] at hn
        walk_at "gm"
        exact hn
      · rw [q] at hn
        walk_at "gm"
        exact hn
    walk_at "gm"
    rw [ne_map, eqv_int, ne_exact]
    exact ⟨rfl, rfl⟩
  · have q : ¬ (0 : Int) < ((L.map nI).length : Int) := of_decide_eq_false q
    rw [List.length_map] at q
    have hL0 : L = [] := List.eq_nil_of_length_eq_zero (by omega)
    subst hL0
    walk_at "gm"
    refine ckP_of ⟨⟨True.intro, True.intro⟩, by rw [List.length_map, hcl]; unfold LIM; omega⟩ ?_
    refine compP_filter neF id ?_ ?_
    · intro z hz nx hn
      obtain ⟨n, _, rfl⟩ := List.mem_map.mp hz
      rw [show neF (.int n) = !decide (n = 1) from rfl] at hn
      walk_at "gm"
      rw [eqv_int]
      refine brP_of (fun q => ?_) fun q => ?_
      · rw [q] at hn
        walk_at "gm"
        exact hn
      · rw [q] at hn
        walk_at "gm"
        exact hn
    walk_at "gm"
    rw [ne_map, eqv_int, ne_exact]
    exact ⟨rfl, rfl⟩
end GL

set_option maxRecDepth 100000
set_option maxHeartbeats 0
namespace GL
open PySem PySem.Spec PyProof.Rows L2 GM
local macro_rules | `(tactic| walk_at "gw") => `(tactic| conv => whnf)
local macro_rules | `(tactic| walk_at "g1") => `(tactic| first | refine optP_of rfl ?_ | (apply envP_of; focus ((try simp only [GM.start, List.map, List.length, List.reduceReplicate, Nat.reduceAdd, Nat.reduceSub, List.cons_append, List.nil_append, GM.put, GM.wb, GM.putR, GM.updE, GM.putF, GM.puts, GM.wipes, GM.get, List.reverse_cons, List.reverse_nil]); exact rfl)) | (refine ckP_of ?_ ?_; exact True.intro) | (refine ckP_of ?_ ?_; exact rfl) | (refine ckP_of ?_ ?_; exact ⟨rfl, rfl⟩) | (refine ckP_of ?_ ?_; exact ⟨True.intro, True.intro⟩) | (refine ckP_of ?_ ?_; exact asg_fr (by assumption) rfl) | (refine ckP_of ?_ ?_; exact ⟨asg_fr (by assumption) rfl, True.intro⟩) | refine brP_t rfl ?_ | refine brP_f rfl ?_ | fail)
local macro_rules | `(tactic| walk_at "gm") => `(tactic| (walk_at "gw"; repeat' (walk_at "g1"; walk_at "gw")))
open CR
/-! classes that cover the days -/
def clD (c : Int × Int) : PyData := .tuple [.int c.1, .int c.2]
def inC (d : Nat) (c : Int × Int) : Bool := decide ((d : Int) % c.1 = c.2)
def ClOk (c : Int × Int) : Prop := 0 ≤ c.2 ∧ c.2 < c.1
def Cov (cls : List (Int × Int)) : Prop := ∀ d : Nat, cls.countP (inC d) = 1
def partC (c : Int × Int) (k : Nat) : List (Int × Int) := (List.range k).map fun (lap : Nat) => (c.1 * (k : Int), c.2 + c.1 * (lap : Int))
theorem part_cnt {c : Int × Int} (hc : ClOk c) {k : Nat} (hk : 0 < k) (d : Nat) : (partC c k).countP (inC d) = if inC d c = true then 1 else 0 := by
  obtain ⟨p, b⟩ := c
  obtain ⟨h0, h1⟩ := hc
  simp only at h0 h1
  obtain ⟨b, rfl⟩ := Int.eq_ofNat_of_zero_le h0
  obtain ⟨p, rfl⟩ := Int.eq_ofNat_of_zero_le (show 0 ≤ p by omega)
  have hp : 0 < p := by omega
  have hr : d / p % k < k := Nat.mod_lt _ hk
  have key : ∀ lap : Nat, (inC d ((p : Int) * (k : Int), (b : Int) + (p : Int) * (lap : Int))) = (decide (d % p = b) && decide (lap = d / p % k)) := by
    intro lap
    unfold inC
    simp only
    rw [Bool.eq_iff_iff, Bool.and_eq_true, decide_eq_true_eq, decide_eq_true_eq, decide_eq_true_eq]
    have e1 : ((d : Int) % ((p : Int) * (k : Int)) = (b : Int) + (p : Int) * (lap : Int)) ↔ d % (p * k) = b + p * lap := by
      constructor
      · intro h; exact_mod_cast h
      · intro h; exact_mod_cast h
    rw [e1, Nat.mod_mul]
    have m1 : d % p < p := Nat.mod_lt _ hp
    generalize d / p % k = r at *
    generalize d % p = s at *
    constructor
    · intro h
      have hs : s = b := by
        have := congrArg (· % p) h
        simp only [Nat.add_mul_mod_self_left] at this
        rwa [Nat.mod_eq_of_lt m1, Nat.mod_eq_of_lt (by omega)] at this
      subst hs
      refine ⟨rfl, ?_⟩
      have : p * r = p * lap := by omega
      exact (Nat.eq_of_mul_eq_mul_left hp this).symm
    · rintro ⟨rfl, rfl⟩
      rfl
  unfold partC
  rw [List.countP_map]
  have e2 : (inC d ∘ fun (lap : Nat) => ((p : Int) * (k : Int), (b : Int) + (p : Int) * (lap : Int))) = fun lap => decide (d % p = b) && decide (lap = d / p % k) := by
    funext lap
    exact key lap
  have e3 : inC d ((p : Int), (b : Int)) = decide (d % p = b) := by
    unfold inC
    simp only
    rw [decide_eq_decide]
    omega
  rw [e2, e3]
  by_cases h : d % p = b
  · rw [decide_eq_true h, if_pos rfl]
    simp only [Bool.true_and]
    rw [cnt_one, if_pos hr]
  · rw [decide_eq_false h, if_neg Bool.false_ne_true]
    simp
theorem erase_map {α β : Type} (f : α → β) : ∀ (l : List α) (i : Nat), (l.eraseIdx i).map f = (l.map f).eraseIdx i
  | [], i => by cases i <;> rfl
  | a :: l, 0 => rfl
  | a :: l, i + 1 => congrArg (f a :: ·) (erase_map f l i)
theorem erase_perm {α : Type} : ∀ {l : List α} {i : Nat} {x : α}, l[i]? = some x → l.Perm (x :: l.eraseIdx i)
  | [], i, x, h => by cases i <;> cases h
  | a :: l, 0, x, h => by cases h; exact List.Perm.refl _
  | a :: l, i + 1, x, h => (List.Perm.cons a (erase_perm (l := l) (i := i) h)).trans (List.Perm.swap x a _)
theorem cnt_erase {cls : List (Int × Int)} {i : Nat} {c : Int × Int} (h : cls[i]? = some c) (d : Nat) : cls.countP (inC d) = (cls.eraseIdx i).countP (inC d) + if inC d c = true then 1 else 0 := by
  rw [(erase_perm h).countP_eq, List.countP_cons]
theorem Cov.part {cls : List (Int × Int)} (hv : Cov cls) {i : Nat} {c : Int × Int} (h : cls[i]? = some c) (hc : ClOk c) {k : Nat} (hk : 0 < k) : Cov (cls.eraseIdx i ++ partC c k) := fun d => by
  rw [List.countP_append, part_cnt hc hk, ← cnt_erase h]
  exact hv d
theorem Cov.perm {a b : List (Int × Int)} (h : Cov a) (hp : b.Perm a) : Cov b := fun d => by rw [hp.countP_eq]; exact h d
theorem Cov.one : Cov [(1, 0)] := fun d => by
  rw [List.countP_singleton, if_pos]
  refine decide_eq_true ?_
  simp only
  omega
theorem Cov.pos {cls : List (Int × Int)} (h : Cov cls) : 1 ≤ cls.length := by
  have := h 0
  have h2 := List.countP_le_length (p := inC 0) (l := cls)
  omega
def psO (cls : List (Int × Int)) : List Int := cls.map (·.1)
def bsO (cls : List (Int × Int)) : List Int := cls.map (·.2)
theorem cl_get {cls : List (Int × Int)} {i : Nat} {c : Int × Int} (h : cls[i]? = some c) : at0 (psO cls) i = c.1 ∧ at0 (bsO cls) i = c.2 := by
  unfold at0 psO bsO
  rw [List.getElem?_map, List.getElem?_map, h]
  exact ⟨rfl, rfl⟩
theorem cl_eq (cls : List (Int × Int)) : (List.range cls.length).map (fun c => (at0 (psO cls) c, at0 (bsO cls) c)) = cls := by
  refine List.ext_getElem? fun i => ?_
  rw [List.getElem?_map]
  by_cases h : i < cls.length
  · have e : cls[i]? = some cls[i] := List.getElem?_eq_getElem h
    obtain ⟨h1, h2⟩ := cl_get e
    rw [List.getElem?_range h, e]
    show some (at0 (psO cls) i, at0 (bsO cls) i) = _
    rw [h1, h2]
  · rw [List.getElem?_eq_none (by rw [List.length_range]; omega), List.getElem?_eq_none (by omega)]; rfl
theorem psO_len (cls : List (Int × Int)) : (psO cls).length = cls.length := List.length_map ..
theorem bsO_len (cls : List (Int × Int)) : (bsO cls).length = cls.length := List.length_map ..
theorem day_cls (cls : List (Int × Int)) (d : Nat) : (dayL (psO cls) (bsO cls) d).length = cls.countP (inC d) := by
  unfold dayL
  rw [← List.countP_eq_length_filter, psO_len]
  conv => rhs; rw [← cl_eq cls, List.countP_map]
  rfl
theorem cl_ok {cls : List (Int × Int)} (h : ∀ c ∈ cls, ClOk c) (hl : cls.length ≤ 12) (hm : ∀ c ∈ cls, c.1 ≤ 1000000) : PsOk (psO cls) ∧ BsOk (psO cls) (bsO cls) := by
  refine ⟨⟨by rw [psO_len]; exact hl, fun p hp => ?_⟩, ⟨by rw [psO_len, bsO_len], fun c hc => ?_⟩⟩
  · obtain ⟨c, hc, rfl⟩ := List.mem_map.mp hp
    have := h c hc
    have := hm c hc
    unfold ClOk at *
    omega
  · rw [psO_len] at hc
    have e : cls[c]? = some cls[c] := List.getElem?_eq_getElem hc
    obtain ⟨h1, h2⟩ := cl_get e
    rw [h1, h2]
    exact h _ (List.getElem_mem hc)
theorem cov_exact {cls : List (Int × Int)} (h : Cov cls) (W : Nat) : exactB (psO cls) (bsO cls) W = true := List.all_eq_true.mpr fun d _ => decide_eq_true (by rw [day_cls]; exact h d)
theorem cov_idle {cls : List (Int × Int)} (h : Cov cls) (W : Nat) : idleN (psO cls) (bsO cls) W = 0 := by
  unfold idleN
  rw [List.countP_eq_zero]
  intro d _ hd
  rw [idle_nil, decide_eq_true_eq, day_cls, h d] at hd
  cases hd
theorem gI_zero {b : Int} (h : 0 < b) : gI 0 b = b := by unfold gI; rw [Int.natAbs_zero, Nat.gcd_zero_left]; omega
theorem fr_zero {b : Int} (h : 0 < b) : frD 0 b = .tuple [.int 0, .int 1] := by
  unfold frD
  rw [gI_zero h, Int.zero_ediv, Int.ediv_self (by omega)]
/-! one class less -/
theorem fewer {cls : List (Int × Int)} (h : Cov cls) (ho : ∀ c ∈ cls, ClOk c) (hl : cls.length ≤ 12) (hm : ∀ c ∈ cls, c.1 ≤ 1000000) {i : Nat} {c : Int × Int} (hi : cls[i]? = some c) (hne : 1 ≤ (cls.eraseIdx i).length) : exactB (psO (cls.eraseIdx i)) (bsO (cls.eraseIdx i)) (Wn (psO (cls.eraseIdx i))) = false ∧ shD (psO (cls.eraseIdx i)) (bsO (cls.eraseIdx i)) = .tuple [.int 1, .int c.1] := by
  have hc := ho c (List.mem_of_getElem? hi)
  have hE : ∀ d : Nat, (cls.eraseIdx i).countP (inC d) = 0 ↔ inC d c = true := fun d => by
    have h1 := cnt_erase hi d
    rw [h d] at h1
    by_cases q : inC d c = true
    · rw [if_pos q] at h1; exact ⟨fun _ => q, fun _ => by omega⟩
    · rw [if_neg q] at h1; exact ⟨fun z => by omega, fun z => absurd z q⟩
  have hsub : ∀ x ∈ cls.eraseIdx i, x ∈ cls := fun x hx => List.mem_of_mem_eraseIdx hx
  have hlE : (cls.eraseIdx i).length ≤ 12 := by
    have := List.length_eraseIdx_le (l := cls) (i := i)
    omega
  generalize cls.eraseIdx i = F at *
  obtain ⟨hp, hb⟩ := cl_ok (cls := F) (fun x hx => ho x (hsub x hx)) hlE fun x hx => hm x (hsub x hx)
  have hW0 := Wn_pos hp
  have hWd : ∀ x ∈ F, x.1 ∣ (Wn (psO F) : Int) := fun x hx => by
    rw [Wn_eq hp]
    exact lcF_dvd.2 _ (List.mem_map.mpr ⟨x, hx, rfl⟩)
  have hpn : 1 ≤ (psO F).length := by rw [psO_len]; exact hne
  have hexp := exact_prog hp hb hpn hW0 (Wn_dvd hp)
  have hid : idleN (psO F) (bsO F) (Wn (psO F)) = (List.range (Wn (psO F))).countP fun d => inC d c := by
    unfold idleN
    refine List.countP_congr fun d _ => ?_
    rw [idle_nil, decide_eq_true_eq, day_cls]
    exact hE d
  rw [hexp]
  have hsh : shD (psO F) (bsO F) = frD (idleN (psO F) (bsO F) (Wn (psO F))) (Wn (psO F)) := rfl
  rw [hsh, hid]
  generalize Wn (psO F) = W at *
  obtain ⟨p, b⟩ := c
  obtain ⟨h0, h1⟩ := hc
  simp only at h0 h1
  obtain ⟨b, rfl⟩ := Int.eq_ofNat_of_zero_le h0
  obtain ⟨p, rfl⟩ := Int.eq_ofNat_of_zero_le (show 0 ≤ p by omega)
  have hbp : b < p := by omega
  have b1 : inC b ((p : Int), (b : Int)) = true := decide_eq_true (by
    simp only
    exact Int.emod_eq_of_lt h0 h1)
  have b2 : inC (b + W) ((p : Int), (b : Int)) = true := by
    rw [← hE, ← (hE b).mpr b1]
    refine List.countP_congr fun x hx => ?_
    unfold inC
    rw [decide_eq_true_eq, decide_eq_true_eq]
    obtain ⟨q, hq⟩ := hWd x hx
    rw [Int.natCast_add, hq, Int.add_mul_emod_self_left]
  have hpW : p ∣ W := by
    have b2 : ((b + W : Nat) : Int) % (p : Int) = b := of_decide_eq_true b2
    have b3 : ((b + W : Nat) : Int) % (p : Int) = (b : Int) % (p : Int) := by rw [b2, Int.emod_eq_of_lt h0 h1]
    have b4 := Int.dvd_of_emod_eq_zero (Int.emod_eq_emod_iff_emod_sub_eq_zero.mp b3)
    rw [Int.natCast_add, show (b : Int) + (W : Int) - (b : Int) = (W : Int) by omega] at b4
    exact Int.natCast_dvd_natCast.mp b4
  obtain ⟨k, rfl⟩ := hpW
  have hk : 0 < k := by
    rcases Nat.eq_zero_or_pos k with z | z
    · rw [z, Nat.mul_zero] at hW0; omega
    · exact z
  have e : (List.range (p * k)).countP (fun d => inC d ((p : Int), (b : Int))) = k := by
    refine Eq.trans (List.countP_congr fun d _ => ?_) (cnt_block hbp k)
    unfold inC
    rw [decide_eq_true_eq, decide_eq_true_eq]
    simp only
    omega
  rw [e]
  refine ⟨?_, ?_⟩
  · rw [decide_eq_false (show ¬ k = 0 by omega), Bool.and_false]
  · have eg : gI (k : Int) ((p * k : Nat) : Int) = k := by
      unfold gI
      rw [Int.natAbs_natCast, Int.natAbs_natCast, Nat.mul_comm, Nat.gcd_mul_right_right]
    unfold frD
    rw [eg, Int.ediv_self (by omega), Int.natCast_mul, Int.mul_ediv_cancel _ (by omega)]
end GL

set_option maxRecDepth 100000
set_option maxHeartbeats 0
namespace GL
open PySem PySem.Spec PyProof.Rows L2 GM
local macro_rules | `(tactic| walk_at "gw") => `(tactic| conv => whnf)
local macro_rules | `(tactic| walk_at "g1") => `(tactic| first | refine optP_of rfl ?_ | (apply envP_of; focus ((try simp only [GM.start, List.map, List.length, List.reduceReplicate, Nat.reduceAdd, Nat.reduceSub, List.cons_append, List.nil_append, GM.put, GM.wb, GM.putR, GM.updE, GM.putF, GM.puts, GM.wipes, GM.get, List.reverse_cons, List.reverse_nil]); exact rfl)) | (refine ckP_of ?_ ?_; exact True.intro) | (refine ckP_of ?_ ?_; exact rfl) | (refine ckP_of ?_ ?_; exact ⟨rfl, rfl⟩) | (refine ckP_of ?_ ?_; exact ⟨True.intro, True.intro⟩) | (refine ckP_of ?_ ?_; exact asg_fr (by assumption) rfl) | (refine ckP_of ?_ ?_; exact ⟨asg_fr (by assumption) rfl, True.intro⟩) | refine brP_t rfl ?_ | refine brP_f rfl ?_ | fail)
local macro_rules | `(tactic| walk_at "gm") => `(tactic| (walk_at "gw"; repeat' (walk_at "g1"; walk_at "gw")))
open CR
structure ClsI (t : Nat) (most : Int) (cls : List (Int × Int)) : Prop where
  cov : Cov cls
  ok : ∀ c ∈ cls, ClOk c
  le : ∀ c ∈ cls, c.1 ≤ most
  len : cls.length ≤ 10
  dv : ∃ T : Nat, 0 < T ∧ T ≤ 10 ^ t ∧ ∀ c ∈ cls, c.1 ∣ (T : Int)
theorem ClsI.up {t : Nat} {most : Int} {cls : List (Int × Int)} (h : ClsI t most cls) : ClsI (t + 1) most cls :=
  ⟨h.cov, h.ok, h.le, h.len, by
    obtain ⟨T, h0, h1, h2⟩ := h.dv
    exact ⟨T, h0, Nat.le_trans h1 (Nat.pow_le_pow_right (by decide) (by omega)), h2⟩⟩
theorem ClsI.perm {t : Nat} {most : Int} {a b : List (Int × Int)} (h : ClsI t most a) (hp : b.Perm a) : ClsI t most b :=
  ⟨h.cov.perm hp, fun c hc => h.ok c (hp.mem_iff.mp hc), fun c hc => h.le c (hp.mem_iff.mp hc), by rw [hp.length_eq]; exact h.len, by
    obtain ⟨T, h0, h1, h2⟩ := h.dv
    exact ⟨T, h0, h1, fun c hc => h2 c (hp.mem_iff.mp hc)⟩⟩
theorem ClsI.one {most : Int} (h : 1 ≤ most) : ClsI 0 most [(1, 0)] :=
  ⟨Cov.one, fun c hc => by rw [List.mem_singleton.mp hc]; exact ⟨by decide, by decide⟩, fun c hc => by rw [List.mem_singleton.mp hc]; exact h, by decide, 1, by decide, by decide, fun c hc => by rw [List.mem_singleton.mp hc]; exact Int.dvd_refl _⟩
theorem partC_len (c : Int × Int) (k : Nat) : (partC c k).length = k := by unfold partC; rw [List.length_map, List.length_range]
theorem ClsI.part {t : Nat} {most : Int} {cls : List (Int × Int)} (h : ClsI t most cls) {i k : Nat} {c : Int × Int} (hi : cls[i]? = some c) (hk : 1 ≤ k) (hk10 : k ≤ 10) (hl : cls.length + k ≤ 11) (hm : c.1 * (k : Int) ≤ most) : ClsI (t + 1) most (cls.eraseIdx i ++ partC c k) := by
  have hc := h.ok c (List.mem_of_getElem? hi)
  have hil := (List.getElem?_eq_some_iff.mp hi).1
  have el : (cls.eraseIdx i).length = cls.length - 1 := List.length_eraseIdx_of_lt hil
  obtain ⟨T, h0, h1, h2⟩ := h.dv
  have hpm : ∀ x ∈ partC c k, ClOk x ∧ x.1 = c.1 * (k : Int) := fun x hx => by
    obtain ⟨lap, hlap, rfl⟩ := List.mem_map.mp hx
    have hlap := List.mem_range.mp hlap
    refine ⟨⟨?_, ?_⟩, rfl⟩
    · exact Int.add_nonneg hc.1 (Int.mul_nonneg (by have := hc.1; have := hc.2; omega) (Int.natCast_nonneg _))
    · show c.2 + c.1 * (lap : Int) < c.1 * (k : Int)
      have : c.1 * (lap : Int) ≤ c.1 * ((k : Int) - 1) := Int.mul_le_mul_of_nonneg_left (by omega) (by have := hc.1; have := hc.2; omega)
      rw [Int.mul_sub, Int.mul_one] at this
      have := hc.2
      omega
  refine ⟨h.cov.part hi hc (by omega), fun x hx => ?_, fun x hx => ?_, by rw [List.length_append, partC_len]; omega, T * k, Nat.mul_pos h0 (by omega), ?_, fun x hx => ?_⟩
  · rcases List.mem_append.mp hx with hx | hx
    · exact h.ok x (List.mem_of_mem_eraseIdx hx)
    · exact (hpm x hx).1
  · rcases List.mem_append.mp hx with hx | hx
    · exact h.le x (List.mem_of_mem_eraseIdx hx)
    · rw [(hpm x hx).2]; exact hm
  · rw [Nat.pow_succ]
    exact Nat.mul_le_mul h1 hk10
  · rw [Int.natCast_mul]
    rcases List.mem_append.mp hx with hx | hx
    · exact Int.dvd_trans (h2 x (List.mem_of_mem_eraseIdx hx)) (Int.dvd_mul_right _ _)
    · rw [(hpm x hx).2]
      exact Int.mul_dvd_mul (h2 c (List.mem_of_getElem? hi)) (Int.dvd_refl _)
theorem pop_at {xs : List PyData} {i : Int} {x : PyData} (h0 : 0 ≤ i) (h : xs[i.toNat]? = some x) : mthD .popAt xs [.int i] = some (x, xs.eraseIdx i.toNat) := by
  have e : atD xs i = some x := atD_pos h0 h
  simp only [mthD, e]
  rw [if_neg (by omega)]
def partD (c : Int × Int) (k : Nat) : PyData → PyData
  | .int lap => .tuple [.int (c.1 * (k : Int)), .int (c.2 + c.1 * lap)]
  | d => d
theorem part_map (c : Int × Int) (k : Nat) : (rngI 0 k).map (partD c k) = (partC c k).map clD := by
  rw [rng_map, List.map_map]
  unfold partC
  rw [List.map_map]
  rfl
def paU (a : List PyData × Nat × List Nat × Int) : List U := [.r a.1, .v (.int a.2.1), .v (.list (a.2.2.1.map nI)), .v (.int a.2.2.2)]
structure PaOk (a : List PyData × Nat × List Nat × Int) : Prop where
  vat : VatOk a.1
  t : a.2.1 ≤ 9
  ne : 1 ≤ a.2.2.1.length
  le : a.2.2.1.length ≤ 10
  all : ∀ k ∈ a.2.2.1, 1 ≤ k ∧ k ≤ 10
  m0 : 1 ≤ a.2.2.2
  m1 : a.2.2.2 ≤ 1000000
def paS : FS := { α := List PyData × Nat × List Nat × Int, args := paU, pre := PaOk, post := fun a r us' => ∃ (cls : List (Int × Int)) (p : List PyData), r = .o (cls.map clD) ∧ ClsI a.2.1 a.2.2.2 cls ∧ VatOk p ∧ us' = paU (p, a.2) }
theorem call_pa {o : Option FS} {p : List PyData} {t : Nat} {ks : List Nat} {most x m : Int} {l : PyData} {Qx : EX → List U → Prop} {Q : U → List U → Prop} (ho : o = some paS) (h : PaOk (p, t, ks, most)) (ex : x = t) (el : l = .list (ks.map nI)) (em : m = most) (q : ∀ cls p', ClsI t most cls → VatOk p' → Q (.o (cls.map clD)) [.r p', .v (.int x), .v l, .v (.int m)]) : callP o [.r p, .v (.int x), .v l, .v (.int m)] Qx Q := by
  subst ex el em
  exact callP_of paS ho (p, t, ks, m) rfl h (by rintro r us' ⟨cls, p', rfl, k1, k2, rfl⟩; exact q cls p' k1 k2) fun _ _ h => h.elim
theorem w_l_parted (p : List PyData) (t : Nat) (ks : List Nat) (most : Int) (h : PaOk (p, t, ks, most)) : wpF (gam [dipS]) 60 b_l_parted 12 [.r p, .v (.int t), .v (.list (ks.map nI)), .v (.int most)] (fun r us' => ∃ (cls : List (Int × Int)) (p : List PyData), r = .o (cls.map clD) ∧ ClsI t most cls ∧ VatOk p ∧ us' = [.r p, .v (.int t), .v (.list (ks.map nI)), .v (.int most)]) (fun _ _ => False) := by
  obtain ⟨hp, ht, hk1, hk2, hka, m0, m1⟩ := h
  simp only at hp ht hk1 hk2 hka m0 m1
  walk_at "gm"
  refine ckP_of ⟨by omega, by omega⟩ ?_
  walk_at "gm"
  rw [Int.toNat_natCast]
  refine forP_inv (fun i e => ∃ (p : List PyData) (cls : List (Int × Int)) (a b c d f : Option U), e = [some (.r p), some (.v (.int t)), some (.v (.list (ks.map nI))), some (.v (.int most)), some (.o (cls.map clD)), a, b, c, d, f, none, none] ∧ VatOk p ∧ ClsI i most cls ∧ Fre a ∧ Fre b ∧ Fre c ∧ Fre d ∧ Fre f) ⟨p, [(1, 0)], _, _, _, _, _, rfl, hp, ClsI.one m0, .no, .no, .no, .no, .no⟩ ?_ ?_
  · rintro i x e nx hx ⟨p, cls, a, b, c, d, f, rfl, hp, hcl, ha, hb, hc, hd, hf⟩ hn
    obtain ⟨hi, rfl⟩ := rng_get hx
    have h10 := hcl.len
    have hps := hcl.cov.pos
    walk_at "gm"
    refine call_dip rfl hp (by rw [List.length_map]; omega) (by rw [List.length_map]; omega) fun k1 p1 k10 k11 hp1 => ?_
    walk_at "gm"
    obtain ⟨_, ex, k, hk, rfl⟩ := pick_list (P := fun d => ∃ k ∈ ks, d = nI k) k10 k11 (fun x hx => by
      obtain ⟨k, hk, rfl⟩ := List.mem_map.mp hx
      exact ⟨k, hk, rfl⟩)
    obtain ⟨hka1, hka2⟩ := hka k hk
    refine optP_of ex ?_
    walk_at "gm"
    refine call_dip rfl hp1 (by rw [List.length_map]; omega) (by rw [List.length_map]; omega) fun j p2 j0 j1 hp2 => ?_
    rw [List.length_map] at j1 ⊢
    walk_at "gm"
    obtain ⟨j, rfl⟩ := Int.eq_ofNat_of_zero_le j0
    obtain ⟨q, hq⟩ : ∃ q, cls[j]? = some q := ⟨_, List.getElem?_eq_getElem (by omega)⟩
    have hqd : (cls.map clD)[((j : Int)).toNat]? = some (.tuple [.int q.1, .int q.2]) := by rw [Int.toNat_natCast, List.getElem?_map, hq]; rfl
    have hq1 := hcl.ok q (List.mem_of_getElem? hq)
    have hq2 := hcl.le q (List.mem_of_getElem? hq)
    have hq3 : 0 ≤ q.1 := by have := hq1.1; have := hq1.2; omega
    refine optP_of (idx_list j0 hqd) ?_
    walk_at "gm"
    rw [List.length_map]
    have hno : ∀ (e' : GM.Env), (∃ z y x w v : Option U, e' = [some (.r p2), some (.v (.int t)), some (.v (.list (ks.map nI))), some (.v (.int most)), some (.o (cls.map clD)), z, y, x, w, v, none, none] ∧ Fre z ∧ Fre y ∧ Fre x ∧ Fre w ∧ Fre v) → nx e' := by
      rintro e' ⟨z, y, x, w, v, rfl, h1, h2, h3, h4, h5⟩
      exact hn _ ⟨p2, cls, _, _, _, _, _, rfl, hp2, hcl.up, h1, h2, h3, h4, h5⟩
    refine brP_of (fun c1 => ?_) fun c1 => ?_
    · have c1 : (cls.length : Int) + (k : Int) - 1 ≤ 10 := of_decide_eq_true c1
      walk_at "gm"
      refine ckP_of (mulC_l hq3 (by omega)) ?_
      walk_at "gm"
      refine brP_of (fun c2 => ?_) fun c2 => ?_
      · have c2 : q.1 * (k : Int) ≤ most := of_decide_eq_true c2
        walk_at "gm"
        refine optP_of (pop_at j0 hqd) ?_
        walk_at "gm"
        refine ckP_of ⟨by omega, by omega⟩ ?_
        walk_at "gm"
        rw [Int.toNat_natCast k]
        refine ckP_of ⟨⟨True.intro, True.intro⟩, by rw [rngI_length]; unfold LIM; omega⟩ ?_
        refine compP_map (partD q k) ?_ ?_
        · intro z hz nx2 hn2
          obtain ⟨l, hl⟩ := List.getElem?_of_mem hz
          obtain ⟨hlk, rfl⟩ := rng_get hl
          rw [Int.zero_add] at *
          walk_at "gm"
          refine ckP_of (mulC_l hq3 (by omega)) ?_
          walk_at "gm"
          refine ckP_of (mulC_l hq3 (by omega)) ?_
          walk_at "gm"
          exact hn2
        rw [part_map]
        walk_at "gm"
        have el : (cls.eraseIdx j).length = cls.length - 1 := List.length_eraseIdx_of_lt (by omega)
        rw [Int.toNat_natCast, ← erase_map]
        refine ckP_of ?_ ?_
        · show ((cls.eraseIdx j).map clD).length + ((partC q k).map clD).length ≤ LIM
          rw [List.length_map, List.length_map, partC_len]
          unfold LIM; omega
        walk_at "gm"
        rw [← List.map_append]
        exact hn _ ⟨p2, cls.eraseIdx j ++ partC q k, _, _, _, _, _, rfl, hp2, hcl.part hq hka1 hka2 (by omega) c2, .v _, .v _, .v _, .v _, .v _⟩
      · walk_at "gm"
        exact hno _ ⟨_, _, _, _, _, rfl, .v _, .v _, .v _, .v _, .v _⟩
    · walk_at "gm"
      exact hno _ ⟨_, _, _, _, _, rfl, .v _, .v _, .v _, .v _, .v _⟩
  · rintro e ⟨p, cls, a, b, c, d, f, rfl, hp, hcl, ha, hb, hc, hd, hf⟩
    rw [rngI_length] at hcl
    walk_at "gm"
    refine whileP_inv (fun m e => ∃ (p : List PyData) (R L : List (Int × Int)), e = [some (.r p), some (.v (.int t)), some (.v (.list (ks.map nI))), some (.v (.int most)), some (.o (R.map clD)), a, b, c, d, f, none, some (.o (L.map clD))] ∧ VatOk p ∧ m = R.length ∧ (L ++ R).Perm cls) cls.length ⟨p, cls, [], rfl, hp, rfl, List.Perm.refl _⟩ ?_
    rintro m e nx ⟨p, R, L, rfl, hp, rfl, hpm⟩ hn
    have hpl := hpm.length_eq
    rw [List.length_append] at hpl
    have h10 := hcl.len
    walk_at "gm"
    rw [List.length_map]
    refine brP_of (fun q => ?_) fun q => ?_
    · have q : (0 : Int) < R.length := of_decide_eq_true q
      walk_at "gm"
      rw [List.length_map]
      refine call_dip rfl hp (by omega) (by omega) fun j p7 j0 j1 hp7 => ?_
      walk_at "gm"
      obtain ⟨j, rfl⟩ := Int.eq_ofNat_of_zero_le j0
      obtain ⟨x, hx⟩ : ∃ x, R[j]? = some x := ⟨_, List.getElem?_eq_getElem (by omega)⟩
      refine optP_of (pop_at (x := clD x) j0 (by rw [Int.toNat_natCast, List.getElem?_map, hx]; rfl)) ?_
      walk_at "gm"
      refine ckP_of (by show (L.map clD).length < LIM; rw [List.length_map]; unfold LIM; omega) ?_
      walk_at "gm"
      have el : (R.eraseIdx j).length = R.length - 1 := List.length_eraseIdx_of_lt (by omega)
      refine hn (R.eraseIdx j).length _ (by omega) ⟨p7, R.eraseIdx j, L ++ [x], ?_, hp7, rfl, ?_⟩
      · rw [List.map_append, Int.toNat_natCast, erase_map]
        rfl
      · rw [List.append_assoc]
        exact ((List.Perm.append_left L (erase_perm hx)).symm).trans hpm
    · have q : ¬ (0 : Int) < R.length := of_decide_eq_false q
      have h0 : R = [] := List.eq_nil_of_length_eq_zero (by omega)
      subst h0
      rw [List.append_nil] at hpm
      walk_at "gm"
      exact ⟨L, p, rfl, hcl.perm hpm, hp, rfl⟩
end GL

set_option maxRecDepth 100000
set_option maxHeartbeats 0
namespace GL
open PySem PySem.Spec PyProof.Rows L2 GM
local macro_rules | `(tactic| walk_at "gw") => `(tactic| conv => whnf)
local macro_rules | `(tactic| walk_at "g1") => `(tactic| first | refine optP_of rfl ?_ | (apply envP_of; focus ((try simp only [GM.start, List.map, List.length, List.reduceReplicate, Nat.reduceAdd, Nat.reduceSub, List.cons_append, List.nil_append, GM.put, GM.wb, GM.putR, GM.updE, GM.putF, GM.puts, GM.wipes, GM.get, List.reverse_cons, List.reverse_nil]); exact rfl)) | (refine ckP_of ?_ ?_; exact True.intro) | (refine ckP_of ?_ ?_; exact rfl) | (refine ckP_of ?_ ?_; exact ⟨rfl, rfl⟩) | (refine ckP_of ?_ ?_; exact ⟨True.intro, True.intro⟩) | (refine ckP_of ?_ ?_; exact asg_fr (by assumption) rfl) | (refine ckP_of ?_ ?_; exact ⟨asg_fr (by assumption) rfl, True.intro⟩) | refine brP_t rfl ?_ | refine brP_f rfl ?_ | fail)
local macro_rules | `(tactic| walk_at "gm") => `(tactic| (walk_at "gw"; repeat' (walk_at "g1"; walk_at "gw")))
open CR
structure WkC (ps bs : List Int) : Prop where
  okp : PsOk ps
  okb : BsOk ps bs
  one : 1 ≤ ps.length
  w : Wn ps ≤ 100000
structure SmC (cls : List (Int × Int)) : Prop where
  ok : ∀ c ∈ cls, ClOk c
  le : ∀ c ∈ cls, c.1 ≤ 36
  len : cls.length ≤ 10
  pos : 1 ≤ cls.length
  dv : ∃ T : Nat, 0 < T ∧ T ≤ 1000 ∧ ∀ c ∈ cls, c.1 ∣ (T : Int)
theorem Wn_le {ps : List Int} (hp : PsOk ps) {T : Nat} (hT : 0 < T) (h : ∀ p ∈ ps, p ∣ (T : Int)) : Wn ps ≤ T := by
  have h1 := dvd_lcF (ps := ps) (d := 1) (T := T) (Int.one_dvd _) h
  have h2 := Int.le_of_dvd (by omega) h1
  have h3 := Wn_eq hp
  omega
theorem SmC.w_ok {cls : List (Int × Int)} (h : SmC cls) : WkC (psO cls) (bsO cls) := by
  obtain ⟨h1, h2⟩ := cl_ok h.ok (by have := h.len; omega) fun c hc => by have := h.le c hc; omega
  obtain ⟨T, t0, t1, t2⟩ := h.dv
  refine ⟨h1, h2, by rw [psO_len]; exact h.pos, ?_⟩
  have := Wn_le h1 t0 fun p hp => by
    obtain ⟨c, hc, rfl⟩ := List.mem_map.mp hp
    exact t2 c hc
  omega
theorem SmC.sub {cls d : List (Int × Int)} (h : SmC cls) (hs : ∀ c ∈ d, c ∈ cls) (hl : d.length ≤ 10) (h1 : 1 ≤ d.length) : SmC d :=
  ⟨fun c hc => h.ok c (hs c hc), fun c hc => h.le c (hs c hc), hl, h1, by
    obtain ⟨T, t0, t1, t2⟩ := h.dv
    exact ⟨T, t0, t1, fun c hc => t2 c (hs c hc)⟩⟩
theorem SmC.of {t : Nat} (ht : t ≤ 3) {cls : List (Int × Int)} (h : ClsI t 36 cls) : SmC cls :=
  ⟨h.ok, h.le, h.len, h.cov.pos, by
    obtain ⟨T, t0, t1, t2⟩ := h.dv
    exact ⟨T, t0, Nat.le_trans t1 (Nat.le_trans (Nat.pow_le_pow_right (by decide) ht) (by decide)), t2⟩⟩
theorem SmC.at {cls : List (Int × Int)} (h : SmC cls) {i : Nat} {c : Int × Int} (hc : cls[i]? = some c) : 0 < c.1 ∧ c.1 ≤ 36 ∧ i < cls.length := by
  have h1 := h.ok c (List.mem_of_getElem? hc)
  have h2 := h.le c (List.mem_of_getElem? hc)
  have h3 := (List.getElem?_eq_some_iff.mp hc).1
  unfold ClOk at h1
  exact ⟨by omega, h2, h3⟩
theorem SmC.set {cls : List (Int × Int)} (h : SmC cls) {i : Nat} {c : Int × Int} (hc : cls[i]? = some c) {x : Int} (h0 : 0 ≤ x) (h1 : x < c.1) : SmC (cls.set i (c.1, x)) := by
  have hm : ∀ d ∈ cls.set i (c.1, x), d ∈ cls ∨ d = (c.1, x) := fun d hd => List.mem_or_eq_of_mem_set hd
  have hcm := List.mem_of_getElem? hc
  refine ⟨fun d hd => ?_, fun d hd => ?_, by rw [List.length_set]; exact h.len, by rw [List.length_set]; exact h.pos, ?_⟩
  · rcases hm d hd with k | rfl
    · exact h.ok d k
    · exact ⟨h0, h1⟩
  · rcases hm d hd with k | rfl
    · exact h.le d k
    · exact h.le c hcm
  · obtain ⟨T, t0, t1, t2⟩ := h.dv
    refine ⟨T, t0, t1, fun d hd => ?_⟩
    rcases hm d hd with k | rfl
    · exact t2 d k
    · exact t2 c hcm
theorem sh_self (ps bs : List Int) : (!PyData.eqv (shD ps bs) (shD ps bs)) = false := by
  unfold shD frD
  simp [PyData.eqv, PyData.eqvAll]
theorem b_self (b : Bool) : (!PyData.eqv (.bool b) (.bool b)) = false := by cases b <;> simp [PyData.eqv]
theorem okT_sh (ps bs : List Int) : okT (shD ps bs) = true := by unfold shD frD; simp [okT, okTs]
theorem sz_sh (ps bs : List Int) : szD (shD ps bs) ≤ 1000000 := by unfold shD frD; simp [szD, szDs]
theorem okT_id (ps bs : List Int) : okT (idD ps bs) = true := by
  unfold idD
  cases (List.range (Wn ps)).find? (idl ps bs) <;> rfl
theorem sz_id (ps bs : List Int) : szD (idD ps bs) ≤ 1000000 := by
  unfold idD
  cases (List.range (Wn ps)).find? (idl ps bs) <;> simp [optD, szD]
def fstC : PyData → PyData
  | .tuple [a, _] => a
  | d => d
def sndC : PyData → PyData
  | .tuple [_, b] => b
  | d => d
theorem fst_map (cls : List (Int × Int)) : (cls.map clD).map fstC = (psO cls).map .int := by
  unfold psO
  rw [List.map_map, List.map_map]; rfl
theorem snd_map (cls : List (Int × Int)) : (cls.map clD).map sndC = (bsO cls).map .int := by
  unfold bsO
  rw [List.map_map, List.map_map]; rfl
theorem ints_ex : ∀ {xs : List PyData}, (∀ x ∈ xs, ∃ n, x = PyData.int n) → ∃ bs : List Int, xs = bs.map .int
  | [], _ => ⟨[], rfl⟩
  | x :: xs, h => by
    obtain ⟨n, rfl⟩ := h x List.mem_cons_self
    obtain ⟨bs, rfl⟩ := ints_ex fun y hy => h y (List.mem_cons_of_mem _ hy)
    exact ⟨n :: bs, rfl⟩
def exS : FS := valS isU (fun a => PsOk a.1 ∧ BsOk a.1 a.2) (fun a => .bool (exactB a.1 a.2 (Wn a.1)))
def lsS : FS := valS isU (fun a => PsOk a.1 ∧ BsOk a.1 a.2) (fun a => shD a.1 a.2)
def smS : FS := { α := List PyData, args := fun p => [.r p], pre := fun p => VatOk p, post := fun _ r us' => ∃ p, r = .v (.bool true) ∧ VatOk p ∧ us' = [.r p] }
def prL : List PyData := [.int 2, .int 3, .int 4, .int 6, .int 5, .int 1, .int 12]
theorem at0_snoc {xs : List Int} {x : Int} {i c : Nat} (hl : xs.length = i) (hc : c < i + 1) : at0 (xs ++ [x]) c = if c < i then at0 xs c else x := by
  unfold at0
  by_cases h : c < i
  · rw [if_pos h, List.getElem?_append_left (by omega)]
  · have : c = i := by omega
    subst this
    rw [if_neg h, ← hl]
    simp
theorem set_at {xs : List PyData} {j : Nat} {d : PyData} (h : j < xs.length) : setAt xs (.int (j : Int)) d = some (xs.set j d) := by
  unfold setAt ixN
  simp [h]
theorem w_l_small (p : List PyData) (hp : VatOk p) : wpF (gam [dipS, hbS, byS, paS, bdS, exS, lsS, idS, sameT, isS, ecS]) 60 b_l_small 12 [.r p] (fun r us' => ∃ p, r = .v (.bool true) ∧ VatOk p ∧ us' = [.r p]) (fun _ _ => False) := by
  walk_at "gm"
  refine call_dip rfl hp (by decide) (by decide) fun k p1 k0 k1 hp1 => ?_
  walk_at "gm"
  rw [eqv_int]
  refine brP_of (fun q => ?_) fun q => ?_
  · walk_at "gm"
    refine call_habit rfl hp1 fun a b p2 a0 a1 b0 b1 hp2 => ?_
    walk_at "gm"
    refine call_dip rfl hp2 (by decide) (by decide) fun t p3 t0 t1 hp3 => ?_
    obtain ⟨t, rfl⟩ := Int.eq_ofNat_of_zero_le t0
    walk_at "gm"
    refine ckP_of ⟨by omega, by omega⟩ ?_
    walk_at "gm"
    rw [show ((1 : Int) + (t : Int)).toNat = t + 1 by omega]
    refine ckP_of ⟨⟨True.intro, True.intro⟩, by rw [rngI_length]; unfold LIM; omega⟩ ?_
    refine compP_gather (fun d => ∃ q : Int, d = .int q ∧ 1 ≤ q ∧ q ≤ 12 ∧ q ∣ 60) (fun e => ∃ (p : List PyData) (hb : Option U), e = [some (.r p), hb, none, none, none, none, none, none, none, none, none, none] ∧ (hb = some (hbU a b) ∨ hb = some (.v (.list [.int a, .int b]))) ∧ VatOk p) ⟨p3, _, rfl, .inl rfl, hp3⟩ ?_ ?_
    · rintro i x e nx hx ⟨p, hb, rfl, hhb, hp⟩ hn
      obtain ⟨hi, rfl⟩ := rng_get hx
      rcases hhb with rfl | rfl
      all_goals
        walk_at "gm"
        refine call_by rfl hp a0 (by decide) (by decide) fun k p' k0 k1 hp' => ?_
        walk_at "gm"
        obtain ⟨w, ex, hw⟩ := pick_list (P := fun d => ∃ q : Int, d = .int q ∧ 1 ≤ q ∧ q ≤ 12 ∧ q ∣ 60) (xs := prL) k0 k1 (fun x hx => by
          unfold prL at hx
          simp only [List.mem_cons, List.not_mem_nil, or_false] at hx
          rcases hx with rfl | rfl | rfl | rfl | rfl | rfl | rfl
          all_goals exact ⟨_, rfl, by decide, by decide, by decide⟩)
        refine optP_of ex ?_
        walk_at "gm"
        exact hn _ _ hw ⟨_, _, rfl, .inr rfl, hp'⟩
    · rintro acc e hal hac ⟨p, hb, rfl, hhb, hp⟩
      rw [rngI_length] at hal
      obtain ⟨ps, rfl⟩ := ints_ex fun x hx => by obtain ⟨q, rfl, _⟩ := hac x hx; exact ⟨q, rfl⟩
      rw [List.length_map] at hal
      have hpa : ∀ q ∈ ps, 1 ≤ q ∧ q ≤ 12 ∧ q ∣ 60 := fun q hq => by
        obtain ⟨r, hr, h1⟩ := hac (.int q) (List.mem_map.mpr ⟨q, hq, rfl⟩)
        cases hr
        exact h1
      have hps : PsOk ps := ⟨by omega, fun q hq => by have := hpa q hq; omega⟩
      have hW : Wn ps ≤ 60 := Wn_le hps (by decide) fun q hq => (hpa q hq).2.2
      clear hac
      rcases hhb with rfl | rfl
      all_goals
        walk_at "gm"
        refine ckP_of ⟨⟨True.intro, True.intro⟩, by rw [List.length_map]; unfold LIM; omega⟩ ?_
        refine compP_inv (fun i acc e => ∃ (p : List PyData) (bs : List Int) (hb z : Option U), e = [some (.r p), hb, some (.v (gU ps)), none, none, none, none, none, none, none, none, none] ∧ acc = bs.map .int ∧ bs.length = i ∧ (∀ c, c < i → 0 ≤ at0 bs c ∧ at0 bs c < at0 ps c) ∧ VatOk p) ⟨p, [], _, none, rfl, rfl, rfl, fun c h => by omega, hp⟩ ?_ ?_
        · rintro i x acc e nx hx ⟨p, bs, hb, z, rfl, rfl, hbl, hba, hp⟩ hn
          obtain ⟨q, hq, rfl⟩ := map_at hx
          have hq1 := hpa q (List.mem_of_getElem? hq)
          have hqa : at0 ps i = q := by unfold at0; rw [hq]; rfl
          walk_at "gm"
          refine call_dip rfl hp (by omega) (by omega) fun k p' k0 k1 hp' => ?_
          walk_at "gm"
          refine hn _ _ ⟨p', bs ++ [k], _, none, rfl, by rw [List.map_append]; rfl, by rw [List.length_append, hbl]; rfl, fun c hc => ?_, hp'⟩
          rw [at0_snoc hbl hc]
          by_cases h : c < i
          · rw [if_pos h]; exact hba c h
          · rw [if_neg h]
            have : c = i := by omega
            subst this
            rw [hqa]
            exact ⟨k0, k1⟩
        · rintro acc e ⟨p, bs, hb, z, rfl, rfl, hbl, hba, hp⟩
          rw [List.length_map] at hbl hba
          have hC : WkC ps bs := ⟨hps, ⟨hbl, hba⟩, by omega, by omega⟩
          walk_at "gm"
          refine callP_of bdS rfl (ps, bs) rfl ⟨hC.okp, hC.okb, hC.one, hC.w⟩ ?_ fun _ _ h => h.elim
          rintro r us' ⟨rfl, rfl⟩
          walk_at "gm"
          refine call_val (args := isU) rfl (ps, bs) rfl ⟨hC.okp, hC.okb⟩ ?_
          walk_at "gm"
          rw [sh_self]
          walk_at "gm"
          refine call_val (args := isU) rfl (ps, bs) rfl ⟨hC.okp, hC.okb⟩ ?_
          walk_at "gm"
          rw [b_self]
          walk_at "gm"
          refine call_val (args := isU) rfl (ps, bs) rfl ⟨hC.okp, hC.okb, hC.one⟩ ?_
          walk_at "gm"
          refine call_sameT rfl rfl (okT_sh _ _) (sz_sh _ _) ?_
          walk_at "gm"
          refine call_val (args := isU) rfl (ps, bs) rfl ⟨hC.okp, hC.okb, hC.one, hC.w⟩ ?_
          walk_at "gm"
          refine call_sameT rfl rfl (okT_id _ _) (sz_id _ _) ?_
          walk_at "gm"
          refine call_val (args := isU) rfl (ps, bs) rfl ⟨hC.okp, hC.okb, hC.one⟩ ?_
          walk_at "gm"
          refine call_sameT rfl rfl rfl (by simp [szD]) ?_
          walk_at "gm"
          exact ⟨_, rfl, by assumption, rfl⟩
  · walk_at "gm"
    refine call_dip rfl hp1 (by decide) (by decide) fun t p2 t0 t1 hp2 => ?_
    obtain ⟨t, rfl⟩ := Int.eq_ofNat_of_zero_le t0
    walk_at "gm"
    refine call_pa rfl (p := p2) (t := t + 1) (ks := [2, 3, 2, 4]) (most := 36) ⟨hp2, by show t + 1 ≤ 9; omega, show 1 ≤ ([2, 3, 2, 4] : List Nat).length by decide, show ([2, 3, 2, 4] : List Nat).length ≤ 10 by decide, show ∀ k ∈ ([2, 3, 2, 4] : List Nat), 1 ≤ k ∧ k ≤ 10 by decide, show (1 : Int) ≤ 36 by decide, show (36 : Int) ≤ 1000000 by decide⟩ (by omega) rfl rfl fun cls p3 hcl hp3 => ?_
    have sm := SmC.of (t := t + 1) (by omega) hcl
    clear hcl
    walk_at "gm"
    rw [List.length_map]
    refine brP_of (fun q => ?_) fun q => ?_
    · have q : (1 : Int) < cls.length := of_decide_eq_true q
      walk_at "gm"
      refine call_dip rfl hp3 (by decide) (by decide) fun u p4 u0 u1 hp4 => ?_
      walk_at "gm"
      rw [eqv_int]
      refine brP_of (fun q2 => ?_) fun q2 => ?_
      · have hne : cls ≠ [] := by rintro rfl; simp at q
        obtain ⟨ms, y, rfl⟩ := List.eq_nil_or_concat cls |>.resolve_left hne
        rw [List.concat_eq_append] at *
        rw [List.map_append, List.map_cons, List.map_nil]
        rw [List.length_append, List.length_singleton] at q
        walk_at "gm"
        refine optP_of (pop_last _ _) ?_
        have sm : SmC ms := sm.sub (fun c hc => List.mem_append.mpr (.inl hc)) (by have := sm.len; rw [List.length_append] at this; omega) (by omega)
        walk_at "gm"
        refine call_dip rfl hp4 (by decide) (by decide) fun m p8 m0 m1 hp8 => ?_
        walk_at "gm"
        rw [eqv_int]
        refine brP_of (fun q => ?_) fun q => ?_
        · walk_at "gm"
          rw [List.length_map]
          refine call_dip rfl hp8 (by have := sm.pos; omega) (by have := sm.len; omega) fun j p9 j0 j1 hp9 => ?_
          walk_at "gm"
          obtain ⟨j, rfl⟩ := Int.eq_ofNat_of_zero_le j0
          obtain ⟨c, hc⟩ : ∃ c, (ms)[j]? = some c := ⟨_, List.getElem?_eq_getElem (by omega)⟩
          have hcd : ((ms).map clD)[((j : Int)).toNat]? = some (.tuple [.int c.1, .int c.2]) := by rw [Int.toNat_natCast, List.getElem?_map, hc]; rfl
          obtain ⟨o1, o2, o3⟩ := sm.at hc
          refine optP_of (idx_list j0 hcd) ?_
          walk_at "gm"
          refine optP_of (idx_list j0 hcd) ?_
          walk_at "gm"
          refine call_dip rfl hp9 (by omega) (by omega) fun x pa x0 x1 hpa => ?_
          walk_at "gm"
          have hse : setAt ((ms).map clD) (.int (j : Int)) (.tuple [.int c.1, .int x]) = some (((ms).set j (c.1, x)).map clD) := by
            rw [set_at (by rw [List.length_map]; exact o3), List.map_set]; rfl
          refine optP_of hse ?_
          have sm := sm.set hc x0 x1
          generalize (ms).set j (c.1, x) = C2 at *
          walk_at "gm"

          have hC := sm.w_ok
          refine ckP_of ⟨⟨True.intro, True.intro⟩, by rw [List.length_map]; have := sm.len; unfold LIM; omega⟩ ?_
          refine compP_map fstC ?_ ?_
          · intro z hz nx hn
            obtain ⟨c, hc, rfl⟩ := List.mem_map.mp hz
            rw [show fstC (clD c) = .int c.1 from rfl] at hn
            walk_at "gm"
            exact hn
          rw [fst_map]
          walk_at "gm"
          refine ckP_of ⟨⟨True.intro, True.intro⟩, by rw [List.length_map]; have := sm.len; unfold LIM; omega⟩ ?_
          refine compP_map sndC ?_ ?_
          · intro z hz nx hn
            obtain ⟨c, hc, rfl⟩ := List.mem_map.mp hz
            rw [show sndC (clD c) = .int c.2 from rfl] at hn
            walk_at "gm"
            exact hn
          rw [snd_map]
          walk_at "gm"

          refine callP_of bdS rfl (psO C2, bsO C2) rfl ⟨hC.okp, hC.okb, hC.one, hC.w⟩ ?_ fun _ _ h => h.elim
          rintro r us' ⟨rfl, rfl⟩
          walk_at "gm"
          refine call_val (args := isU) rfl (psO C2, bsO C2) rfl ⟨hC.okp, hC.okb⟩ ?_
          walk_at "gm"
          rw [sh_self]
          walk_at "gm"
          refine call_val (args := isU) rfl (psO C2, bsO C2) rfl ⟨hC.okp, hC.okb⟩ ?_
          walk_at "gm"
          rw [b_self]
          walk_at "gm"
          refine call_val (args := isU) rfl (psO C2, bsO C2) rfl ⟨hC.okp, hC.okb, hC.one⟩ ?_
          walk_at "gm"
          refine call_sameT rfl rfl (okT_sh _ _) (sz_sh _ _) ?_
          walk_at "gm"
          refine call_val (args := isU) rfl (psO C2, bsO C2) rfl ⟨hC.okp, hC.okb, hC.one, hC.w⟩ ?_
          walk_at "gm"
          refine call_sameT rfl rfl (okT_id _ _) (sz_id _ _) ?_
          walk_at "gm"
          refine call_val (args := isU) rfl (psO C2, bsO C2) rfl ⟨hC.okp, hC.okb, hC.one⟩ ?_
          walk_at "gm"
          refine call_sameT rfl rfl rfl (by simp [szD]) ?_
          walk_at "gm"
          exact ⟨_, rfl, by assumption, rfl⟩
        · walk_at "gm"
          have hC := sm.w_ok
          refine ckP_of ⟨⟨True.intro, True.intro⟩, by rw [List.length_map]; have := sm.len; unfold LIM; omega⟩ ?_
          refine compP_map fstC ?_ ?_
          · intro z hz nx hn
            obtain ⟨c, hc, rfl⟩ := List.mem_map.mp hz
            rw [show fstC (clD c) = .int c.1 from rfl] at hn
            walk_at "gm"
            exact hn
          rw [fst_map]
          walk_at "gm"
          refine ckP_of ⟨⟨True.intro, True.intro⟩, by rw [List.length_map]; have := sm.len; unfold LIM; omega⟩ ?_
          refine compP_map sndC ?_ ?_
          · intro z hz nx hn
            obtain ⟨c, hc, rfl⟩ := List.mem_map.mp hz
            rw [show sndC (clD c) = .int c.2 from rfl] at hn
            walk_at "gm"
            exact hn
          rw [snd_map]
          walk_at "gm"

          refine callP_of bdS rfl (psO ms, bsO ms) rfl ⟨hC.okp, hC.okb, hC.one, hC.w⟩ ?_ fun _ _ h => h.elim
          rintro r us' ⟨rfl, rfl⟩
          walk_at "gm"
          refine call_val (args := isU) rfl (psO ms, bsO ms) rfl ⟨hC.okp, hC.okb⟩ ?_
          walk_at "gm"
          rw [sh_self]
          walk_at "gm"
          refine call_val (args := isU) rfl (psO ms, bsO ms) rfl ⟨hC.okp, hC.okb⟩ ?_
          walk_at "gm"
          rw [b_self]
          walk_at "gm"
          refine call_val (args := isU) rfl (psO ms, bsO ms) rfl ⟨hC.okp, hC.okb, hC.one⟩ ?_
          walk_at "gm"
          refine call_sameT rfl rfl (okT_sh _ _) (sz_sh _ _) ?_
          walk_at "gm"
          refine call_val (args := isU) rfl (psO ms, bsO ms) rfl ⟨hC.okp, hC.okb, hC.one, hC.w⟩ ?_
          walk_at "gm"
          refine call_sameT rfl rfl (okT_id _ _) (sz_id _ _) ?_
          walk_at "gm"
          refine call_val (args := isU) rfl (psO ms, bsO ms) rfl ⟨hC.okp, hC.okb, hC.one⟩ ?_
          walk_at "gm"
          refine call_sameT rfl rfl rfl (by simp [szD]) ?_
          walk_at "gm"
          exact ⟨_, rfl, by assumption, rfl⟩
      · walk_at "gm"
        refine call_dip rfl hp4 (by decide) (by decide) fun m p8 m0 m1 hp8 => ?_
        walk_at "gm"
        rw [eqv_int]
        refine brP_of (fun q => ?_) fun q => ?_
        · walk_at "gm"
          rw [List.length_map]
          refine call_dip rfl hp8 (by have := sm.pos; omega) (by have := sm.len; omega) fun j p9 j0 j1 hp9 => ?_
          walk_at "gm"
          obtain ⟨j, rfl⟩ := Int.eq_ofNat_of_zero_le j0
          obtain ⟨c, hc⟩ : ∃ c, (cls)[j]? = some c := ⟨_, List.getElem?_eq_getElem (by omega)⟩
          have hcd : ((cls).map clD)[((j : Int)).toNat]? = some (.tuple [.int c.1, .int c.2]) := by rw [Int.toNat_natCast, List.getElem?_map, hc]; rfl
          obtain ⟨o1, o2, o3⟩ := sm.at hc
          refine optP_of (idx_list j0 hcd) ?_
          walk_at "gm"
          refine optP_of (idx_list j0 hcd) ?_
          walk_at "gm"
          refine call_dip rfl hp9 (by omega) (by omega) fun x pa x0 x1 hpa => ?_
          walk_at "gm"
          have hse : setAt ((cls).map clD) (.int (j : Int)) (.tuple [.int c.1, .int x]) = some (((cls).set j (c.1, x)).map clD) := by
            rw [set_at (by rw [List.length_map]; exact o3), List.map_set]; rfl
          refine optP_of hse ?_
          have sm := sm.set hc x0 x1
          generalize (cls).set j (c.1, x) = C2 at *
          walk_at "gm"

          have hC := sm.w_ok
          refine ckP_of ⟨⟨True.intro, True.intro⟩, by rw [List.length_map]; have := sm.len; unfold LIM; omega⟩ ?_
          refine compP_map fstC ?_ ?_
          · intro z hz nx hn
            obtain ⟨c, hc, rfl⟩ := List.mem_map.mp hz
            rw [show fstC (clD c) = .int c.1 from rfl] at hn
            walk_at "gm"
            exact hn
          rw [fst_map]
          walk_at "gm"
          refine ckP_of ⟨⟨True.intro, True.intro⟩, by rw [List.length_map]; have := sm.len; unfold LIM; omega⟩ ?_
          refine compP_map sndC ?_ ?_
          · intro z hz nx hn
            obtain ⟨c, hc, rfl⟩ := List.mem_map.mp hz
            rw [show sndC (clD c) = .int c.2 from rfl] at hn
            walk_at "gm"
            exact hn
          rw [snd_map]
          walk_at "gm"

          refine callP_of bdS rfl (psO C2, bsO C2) rfl ⟨hC.okp, hC.okb, hC.one, hC.w⟩ ?_ fun _ _ h => h.elim
          rintro r us' ⟨rfl, rfl⟩
          walk_at "gm"
          refine call_val (args := isU) rfl (psO C2, bsO C2) rfl ⟨hC.okp, hC.okb⟩ ?_
          walk_at "gm"
          rw [sh_self]
          walk_at "gm"
          refine call_val (args := isU) rfl (psO C2, bsO C2) rfl ⟨hC.okp, hC.okb⟩ ?_
          walk_at "gm"
          rw [b_self]
          walk_at "gm"
          refine call_val (args := isU) rfl (psO C2, bsO C2) rfl ⟨hC.okp, hC.okb, hC.one⟩ ?_
          walk_at "gm"
          refine call_sameT rfl rfl (okT_sh _ _) (sz_sh _ _) ?_
          walk_at "gm"
          refine call_val (args := isU) rfl (psO C2, bsO C2) rfl ⟨hC.okp, hC.okb, hC.one, hC.w⟩ ?_
          walk_at "gm"
          refine call_sameT rfl rfl (okT_id _ _) (sz_id _ _) ?_
          walk_at "gm"
          refine call_val (args := isU) rfl (psO C2, bsO C2) rfl ⟨hC.okp, hC.okb, hC.one⟩ ?_
          walk_at "gm"
          refine call_sameT rfl rfl rfl (by simp [szD]) ?_
          walk_at "gm"
          exact ⟨_, rfl, by assumption, rfl⟩
        · walk_at "gm"
          have hC := sm.w_ok
          refine ckP_of ⟨⟨True.intro, True.intro⟩, by rw [List.length_map]; have := sm.len; unfold LIM; omega⟩ ?_
          refine compP_map fstC ?_ ?_
          · intro z hz nx hn
            obtain ⟨c, hc, rfl⟩ := List.mem_map.mp hz
            rw [show fstC (clD c) = .int c.1 from rfl] at hn
            walk_at "gm"
            exact hn
          rw [fst_map]
          walk_at "gm"
          refine ckP_of ⟨⟨True.intro, True.intro⟩, by rw [List.length_map]; have := sm.len; unfold LIM; omega⟩ ?_
          refine compP_map sndC ?_ ?_
          · intro z hz nx hn
            obtain ⟨c, hc, rfl⟩ := List.mem_map.mp hz
            rw [show sndC (clD c) = .int c.2 from rfl] at hn
            walk_at "gm"
            exact hn
          rw [snd_map]
          walk_at "gm"

          refine callP_of bdS rfl (psO cls, bsO cls) rfl ⟨hC.okp, hC.okb, hC.one, hC.w⟩ ?_ fun _ _ h => h.elim
          rintro r us' ⟨rfl, rfl⟩
          walk_at "gm"
          refine call_val (args := isU) rfl (psO cls, bsO cls) rfl ⟨hC.okp, hC.okb⟩ ?_
          walk_at "gm"
          rw [sh_self]
          walk_at "gm"
          refine call_val (args := isU) rfl (psO cls, bsO cls) rfl ⟨hC.okp, hC.okb⟩ ?_
          walk_at "gm"
          rw [b_self]
          walk_at "gm"
          refine call_val (args := isU) rfl (psO cls, bsO cls) rfl ⟨hC.okp, hC.okb, hC.one⟩ ?_
          walk_at "gm"
          refine call_sameT rfl rfl (okT_sh _ _) (sz_sh _ _) ?_
          walk_at "gm"
          refine call_val (args := isU) rfl (psO cls, bsO cls) rfl ⟨hC.okp, hC.okb, hC.one, hC.w⟩ ?_
          walk_at "gm"
          refine call_sameT rfl rfl (okT_id _ _) (sz_id _ _) ?_
          walk_at "gm"
          refine call_val (args := isU) rfl (psO cls, bsO cls) rfl ⟨hC.okp, hC.okb, hC.one⟩ ?_
          walk_at "gm"
          refine call_sameT rfl rfl rfl (by simp [szD]) ?_
          walk_at "gm"
          exact ⟨_, rfl, by assumption, rfl⟩
    · walk_at "gm"
      refine call_dip rfl hp3 (by decide) (by decide) fun m p8 m0 m1 hp8 => ?_
      walk_at "gm"
      rw [eqv_int]
      refine brP_of (fun q => ?_) fun q => ?_
      · walk_at "gm"
        rw [List.length_map]
        refine call_dip rfl hp8 (by have := sm.pos; omega) (by have := sm.len; omega) fun j p9 j0 j1 hp9 => ?_
        walk_at "gm"
        obtain ⟨j, rfl⟩ := Int.eq_ofNat_of_zero_le j0
        obtain ⟨c, hc⟩ : ∃ c, (cls)[j]? = some c := ⟨_, List.getElem?_eq_getElem (by omega)⟩
        have hcd : ((cls).map clD)[((j : Int)).toNat]? = some (.tuple [.int c.1, .int c.2]) := by rw [Int.toNat_natCast, List.getElem?_map, hc]; rfl
        obtain ⟨o1, o2, o3⟩ := sm.at hc
        refine optP_of (idx_list j0 hcd) ?_
        walk_at "gm"
        refine optP_of (idx_list j0 hcd) ?_
        walk_at "gm"
        refine call_dip rfl hp9 (by omega) (by omega) fun x pa x0 x1 hpa => ?_
        walk_at "gm"
        have hse : setAt ((cls).map clD) (.int (j : Int)) (.tuple [.int c.1, .int x]) = some (((cls).set j (c.1, x)).map clD) := by
          rw [set_at (by rw [List.length_map]; exact o3), List.map_set]; rfl
        refine optP_of hse ?_
        have sm := sm.set hc x0 x1
        generalize (cls).set j (c.1, x) = C2 at *
        walk_at "gm"

        have hC := sm.w_ok
        refine ckP_of ⟨⟨True.intro, True.intro⟩, by rw [List.length_map]; have := sm.len; unfold LIM; omega⟩ ?_
        refine compP_map fstC ?_ ?_
        · intro z hz nx hn
          obtain ⟨c, hc, rfl⟩ := List.mem_map.mp hz
          rw [show fstC (clD c) = .int c.1 from rfl] at hn
          walk_at "gm"
          exact hn
        rw [fst_map]
        walk_at "gm"
        refine ckP_of ⟨⟨True.intro, True.intro⟩, by rw [List.length_map]; have := sm.len; unfold LIM; omega⟩ ?_
        refine compP_map sndC ?_ ?_
        · intro z hz nx hn
          obtain ⟨c, hc, rfl⟩ := List.mem_map.mp hz
          rw [show sndC (clD c) = .int c.2 from rfl] at hn
          walk_at "gm"
          exact hn
        rw [snd_map]
        walk_at "gm"

        refine callP_of bdS rfl (psO C2, bsO C2) rfl ⟨hC.okp, hC.okb, hC.one, hC.w⟩ ?_ fun _ _ h => h.elim
        rintro r us' ⟨rfl, rfl⟩
        walk_at "gm"
        refine call_val (args := isU) rfl (psO C2, bsO C2) rfl ⟨hC.okp, hC.okb⟩ ?_
        walk_at "gm"
        rw [sh_self]
        walk_at "gm"
        refine call_val (args := isU) rfl (psO C2, bsO C2) rfl ⟨hC.okp, hC.okb⟩ ?_
        walk_at "gm"
        rw [b_self]
        walk_at "gm"
        refine call_val (args := isU) rfl (psO C2, bsO C2) rfl ⟨hC.okp, hC.okb, hC.one⟩ ?_
        walk_at "gm"
        refine call_sameT rfl rfl (okT_sh _ _) (sz_sh _ _) ?_
        walk_at "gm"
        refine call_val (args := isU) rfl (psO C2, bsO C2) rfl ⟨hC.okp, hC.okb, hC.one, hC.w⟩ ?_
        walk_at "gm"
        refine call_sameT rfl rfl (okT_id _ _) (sz_id _ _) ?_
        walk_at "gm"
        refine call_val (args := isU) rfl (psO C2, bsO C2) rfl ⟨hC.okp, hC.okb, hC.one⟩ ?_
        walk_at "gm"
        refine call_sameT rfl rfl rfl (by simp [szD]) ?_
        walk_at "gm"
        exact ⟨_, rfl, by assumption, rfl⟩
      · walk_at "gm"
        have hC := sm.w_ok
        refine ckP_of ⟨⟨True.intro, True.intro⟩, by rw [List.length_map]; have := sm.len; unfold LIM; omega⟩ ?_
        refine compP_map fstC ?_ ?_
        · intro z hz nx hn
          obtain ⟨c, hc, rfl⟩ := List.mem_map.mp hz
          rw [show fstC (clD c) = .int c.1 from rfl] at hn
          walk_at "gm"
          exact hn
        rw [fst_map]
        walk_at "gm"
        refine ckP_of ⟨⟨True.intro, True.intro⟩, by rw [List.length_map]; have := sm.len; unfold LIM; omega⟩ ?_
        refine compP_map sndC ?_ ?_
        · intro z hz nx hn
          obtain ⟨c, hc, rfl⟩ := List.mem_map.mp hz
          rw [show sndC (clD c) = .int c.2 from rfl] at hn
          walk_at "gm"
          exact hn
        rw [snd_map]
        walk_at "gm"

        refine callP_of bdS rfl (psO cls, bsO cls) rfl ⟨hC.okp, hC.okb, hC.one, hC.w⟩ ?_ fun _ _ h => h.elim
        rintro r us' ⟨rfl, rfl⟩
        walk_at "gm"
        refine call_val (args := isU) rfl (psO cls, bsO cls) rfl ⟨hC.okp, hC.okb⟩ ?_
        walk_at "gm"
        rw [sh_self]
        walk_at "gm"
        refine call_val (args := isU) rfl (psO cls, bsO cls) rfl ⟨hC.okp, hC.okb⟩ ?_
        walk_at "gm"
        rw [b_self]
        walk_at "gm"
        refine call_val (args := isU) rfl (psO cls, bsO cls) rfl ⟨hC.okp, hC.okb, hC.one⟩ ?_
        walk_at "gm"
        refine call_sameT rfl rfl (okT_sh _ _) (sz_sh _ _) ?_
        walk_at "gm"
        refine call_val (args := isU) rfl (psO cls, bsO cls) rfl ⟨hC.okp, hC.okb, hC.one, hC.w⟩ ?_
        walk_at "gm"
        refine call_sameT rfl rfl (okT_id _ _) (sz_id _ _) ?_
        walk_at "gm"
        refine call_val (args := isU) rfl (psO cls, bsO cls) rfl ⟨hC.okp, hC.okb, hC.one⟩ ?_
        walk_at "gm"
        refine call_sameT rfl rfl rfl (by simp [szD]) ?_
        walk_at "gm"
        exact ⟨_, rfl, by assumption, rfl⟩
end GL

set_option maxRecDepth 100000
set_option maxHeartbeats 0
namespace GL
open PySem PySem.Spec PyProof.Rows L2 GM
local macro_rules | `(tactic| walk_at "gw") => `(tactic| conv => whnf)
local macro_rules | `(tactic| walk_at "g1") => `(tactic| first | refine optP_of rfl ?_ | (apply envP_of; focus ((try simp only [GM.start, List.map, List.length, List.reduceReplicate, Nat.reduceAdd, Nat.reduceSub, List.cons_append, List.nil_append, GM.put, GM.wb, GM.putR, GM.updE, GM.putF, GM.puts, GM.wipes, GM.get, List.reverse_cons, List.reverse_nil]); exact rfl)) | (refine ckP_of ?_ ?_; exact True.intro) | (refine ckP_of ?_ ?_; exact rfl) | (refine ckP_of ?_ ?_; exact ⟨rfl, rfl⟩) | (refine ckP_of ?_ ?_; exact ⟨True.intro, True.intro⟩) | (refine ckP_of ?_ ?_; exact asg_fr (by assumption) rfl) | (refine ckP_of ?_ ?_; exact ⟨asg_fr (by assumption) rfl, True.intro⟩) | refine brP_t rfl ?_ | refine brP_f rfl ?_ | fail)
local macro_rules | `(tactic| walk_at "gm") => `(tactic| (walk_at "gw"; repeat' (walk_at "g1"; walk_at "gw")))
open CR
/-! great covers -/
theorem cut_some {α : Type} (xs : List α) (k : Nat) : cutL xs (some (k : Int)) none = xs.drop k := by
  unfold cutL
  rw [HT.sIx_none, show HT.sIx xs.length 0 (some (k : Int)) = min k xs.length from HT.sIx_nat xs.length 0 k]
  by_cases h : k ≤ xs.length
  · rw [Nat.min_eq_left h]
    exact List.take_of_length_le (by simp)
  · rw [Nat.min_eq_right (by omega), Nat.sub_self, List.take_zero, List.drop_of_length_le (by omega)]

theorem nat_succ_cast (n : Nat) : (n : Int) + 1 = ((n + 1 : Nat) : Int) := by omega
theorem at0_set {xs : List Int} {k c : Nat} {v : Int} (hk : k < xs.length) : at0 (xs.set k v) c = if c = k then v else at0 xs c := by
  unfold at0
  rw [List.getElem?_set]
  by_cases h : c = k
  · subst h
    rw [if_pos rfl, if_pos rfl, if_pos hk]; rfl
  · rw [if_neg (fun z => h z.symm), if_neg h]
theorem bs_set {ps bs : List Int} (h : BsOk ps bs) {k : Nat} {v : Int} (hk : k < ps.length) (h0 : 0 ≤ v) (h1 : v < at0 ps k) : BsOk ps (bs.set k v) := by
  refine ⟨by rw [List.length_set]; exact h.len, fun c hc => ?_⟩
  rw [at0_set (by rw [h.len]; exact hk)]
  by_cases e : c = k
  · subst e; rw [if_pos rfl]; exact ⟨h0, h1⟩
  · rw [if_neg e]; exact h.all c hc
theorem moved_eq (bs : List Int) (k : Nat) (v : Int) (hk : k < bs.length) : (bs.map PyData.int).take k ++ [.int v] ++ (bs.map PyData.int).drop (k + 1) = (bs.set k v).map .int := by
  rw [List.map_set, List.set_eq_take_append_cons_drop, if_pos (by rw [List.length_map]; exact hk), List.append_assoc]
  rfl
theorem fewer_eq (xs : List Int) (k : Nat) : (xs.map PyData.int).take k ++ (xs.map PyData.int).drop (k + 1) = (xs.eraseIdx k).map .int := by
  rw [erase_map, List.eraseIdx_eq_take_drop_succ]
def grU (a : List PyData × Int × List Nat) : List U := [.r a.1, .v (.int a.2.1), .v (.list (a.2.2.map nI))]
def grS : FS := { α := List PyData × Int × List Nat, args := grU, pre := fun a => PaOk (a.1, 9, a.2.2, a.2.1), post := fun a r us' => ∃ p, r = .v (.bool true) ∧ VatOk p ∧ us' = grU (p, a.2) }
theorem w_l_great (p : List PyData) (most : Int) (ks : List Nat) (h : PaOk (p, 9, ks, most)) : wpF (gam [paS, isS, sameT, ecS, dipS, lsS, exS]) 60 b_l_great 10 [.r p, .v (.int most), .v (.list (ks.map nI))] (fun r us' => ∃ p, r = .v (.bool true) ∧ VatOk p ∧ us' = [.r p, .v (.int most), .v (.list (ks.map nI))]) (fun _ _ => False) := by
  walk_at "gm"
  refine call_pa rfl h rfl rfl rfl fun cls p1 hcl hp1 => ?_
  have m1 : most ≤ 1000000 := h.m1
  have hlen := hcl.len
  have hpos := hcl.cov.pos
  have hm6 : ∀ c ∈ cls, c.1 ≤ 1000000 := fun c hc => Int.le_trans (hcl.le c hc) m1
  obtain ⟨hps, hbs⟩ := cl_ok hcl.ok (by omega) hm6
  have hpl := psO_len cls
  have hbl := bsO_len cls
  have h1 : 1 ≤ (psO cls).length := by omega
  have hce := cov_exact hcl.cov (Wn (psO cls))
  have hW0 := Wn_pos hps
  have hci : shD (psO cls) (bsO cls) = .tuple [.int 0, .int 1] := by
    show frD (idleN (psO cls) (bsO cls) (Wn (psO cls))) (Wn (psO cls)) = _
    rw [cov_idle hcl.cov]
    exact fr_zero (by omega)
  walk_at "gm"
  refine ckP_of ⟨⟨True.intro, True.intro⟩, by rw [List.length_map]; unfold LIM; omega⟩ ?_
  refine compP_map fstC ?_ ?_
  · intro z hz nx hn
    obtain ⟨c, hc, rfl⟩ := List.mem_map.mp hz
    rw [show fstC (clD c) = .int c.1 from rfl] at hn
    walk_at "gm"
    exact hn
  rw [fst_map]
  walk_at "gm"
  refine ckP_of ⟨⟨True.intro, True.intro⟩, by rw [List.length_map]; unfold LIM; omega⟩ ?_
  refine compP_map sndC ?_ ?_
  · intro z hz nx hn
    obtain ⟨c, hc, rfl⟩ := List.mem_map.mp hz
    rw [show sndC (clD c) = .int c.2 from rfl] at hn
    walk_at "gm"
    exact hn
  rw [snd_map]
  walk_at "gm"
  refine call_val (args := isU) rfl (psO cls, bsO cls) rfl ⟨hps, hbs, h1⟩ ?_
  rw [show exactB (psO cls, bsO cls).1 (psO cls, bsO cls).2 (Wn (psO cls, bsO cls).1) = true from hce]
  walk_at "gm"
  refine call_val (args := isU) rfl (psO cls, bsO cls) rfl ⟨hps, hbs, h1⟩ ?_
  rw [show shD (psO cls, bsO cls).1 (psO cls, bsO cls).2 = .tuple [.int 0, .int 1] from hci]
  walk_at "gm"
  refine call_sameT rfl rfl (by decide) (by decide) ?_
  walk_at "gm"
  rw [List.length_map]
  refine call_dip rfl hp1 (by omega) (by omega) fun k p2 k0 k1 hp2 => ?_
  walk_at "gm"
  obtain ⟨k, rfl⟩ := Int.eq_ofNat_of_zero_le k0
  have hk : k < (psO cls).length := by omega
  have hkb : k < (bsO cls).length := by omega
  obtain ⟨q, hq⟩ : ∃ q, cls[k]? = some q := ⟨_, List.getElem?_eq_getElem (by omega)⟩
  obtain ⟨c1, c2⟩ := cl_get hq
  have p0 := hps.at0 hk
  refine optP_of (ixU hkb) ?_
  walk_at "gm"
  refine optP_of (ixU hk) ?_
  walk_at "gm"
  refine ckP_of (show 0 < at0 (psO cls) k by omega) ?_
  walk_at "gm"
  have v0 := Int.emod_nonneg (at0 (bsO cls) k + 1) (show at0 (psO cls) k ≠ 0 by omega)
  have v1 := Int.emod_lt_of_pos (at0 (bsO cls) k + 1) (show 0 < at0 (psO cls) k by omega)
  generalize (at0 (bsO cls) k + 1) % at0 (psO cls) k = v at *
  have hlt : (((bsO cls).map PyData.int).take k).length = k := by rw [List.length_take, List.length_map]; omega
  have hlt2 : (((psO cls).map PyData.int).take k).length = k := by rw [List.length_take, List.length_map]; omega
  rw [cut_none]
  refine ckP_of (by show _ + _ ≤ LIM; rw [hlt]; simp; unfold LIM; omega) ?_
  walk_at "gm"
  rw [nat_succ_cast, cut_some]
  refine ckP_of (by show _ + _ ≤ LIM; rw [List.length_append, hlt, List.length_drop, List.length_map]; simp; unfold LIM; omega) ?_
  walk_at "gm"
  rw [moved_eq _ _ _ hkb]
  have hms := bs_set hbs hk v0 v1
  refine call_val (args := isU) rfl (psO cls, (bsO cls).set k v) rfl ⟨hps, hms, h1⟩ ?_
  walk_at "gm"
  refine call_val (args := isU) rfl (psO cls, (bsO cls).set k v) rfl ⟨hps, hms⟩ ?_
  walk_at "gm"
  refine call_sameT rfl rfl rfl (by simp [szD]) ?_
  walk_at "gm"
  refine call_val (args := isU) rfl (psO cls, (bsO cls).set k v) rfl ⟨hps, hms, h1⟩ ?_
  walk_at "gm"
  refine call_val (args := isU) rfl (psO cls, (bsO cls).set k v) rfl ⟨hps, hms⟩ ?_
  walk_at "gm"
  refine call_sameT rfl rfl (okT_sh _ _) (sz_sh _ _) ?_
  walk_at "gm"
  rw [cut_none, nat_succ_cast, cut_some]
  refine ckP_of (by show _ + _ ≤ LIM; rw [hlt2, List.length_drop, List.length_map]; unfold LIM; omega) ?_
  walk_at "gm"
  rw [cut_none, nat_succ_cast, cut_some]
  refine ckP_of (by show _ + _ ≤ LIM; rw [hlt, List.length_drop, List.length_map]; unfold LIM; omega) ?_
  walk_at "gm"
  rw [fewer_eq, fewer_eq]
  have eP : (psO cls).eraseIdx k = psO (cls.eraseIdx k) := (erase_map _ _ _).symm
  have eB : (bsO cls).eraseIdx k = bsO (cls.eraseIdx k) := (erase_map _ _ _).symm
  rw [eP, eB, List.length_map, eqv_int, psO_len]
  have hfw := fewer hcl.cov hcl.ok (by omega) hm6 hq
  have hel : (cls.eraseIdx k).length ≤ 10 := Nat.le_trans (List.length_eraseIdx_le ..) hlen
  obtain ⟨hps2, hbs2⟩ := cl_ok (cls := cls.eraseIdx k) (fun c hc => hcl.ok c (List.mem_of_mem_eraseIdx hc)) (by omega) fun c hc => hm6 c (List.mem_of_mem_eraseIdx hc)
  have hpl2 := psO_len (cls.eraseIdx k)
  generalize cls.eraseIdx k = E at *
  refine brP_of (fun z => ?_) fun z => ?_
  · walk_at "gm"
    exact ⟨p2, rfl, hp2, rfl⟩
  · have z : ¬ (E.length : Int) = 0 := of_decide_eq_false z
    obtain ⟨f1, f2⟩ := hfw (by omega)
    walk_at "gm"
    refine call_val (args := isU) rfl (psO E, bsO E) rfl ⟨hps2, hbs2, by show 1 ≤ (psO E).length; omega⟩ ?_
    rw [show exactB (psO E, bsO E).1 (psO E, bsO E).2 (Wn (psO E, bsO E).1) = false from f1]
    walk_at "gm"
    refine call_val (args := isU) rfl (psO E, bsO E) rfl ⟨hps2, hbs2, by show 1 ≤ (psO E).length; omega⟩ ?_
    rw [show shD (psO E, bsO E).1 (psO E, bsO E).2 = .tuple [.int 1, .int q.1] from f2]
    walk_at "gm"
    refine optP_of (ixU hk) ?_
    rw [c1]
    walk_at "gm"
    refine call_sameT rfl rfl (by simp [okT, okTs]) (by simp [szD, szDs]) ?_
    walk_at "gm"
    exact ⟨p2, rfl, hp2, rfl⟩
end GL

set_option maxRecDepth 100000
set_option maxHeartbeats 0
namespace GL
open PySem PySem.Spec PyProof.Rows L2 GM
local macro_rules | `(tactic| walk_at "gw") => `(tactic| conv => whnf)
local macro_rules | `(tactic| walk_at "g1") => `(tactic| first | refine optP_of rfl ?_ | (apply envP_of; focus ((try simp only [GM.start, List.map, List.length, List.reduceReplicate, Nat.reduceAdd, Nat.reduceSub, List.cons_append, List.nil_append, GM.put, GM.wb, GM.putR, GM.updE, GM.putF, GM.puts, GM.wipes, GM.get, List.reverse_cons, List.reverse_nil]); exact rfl)) | (refine ckP_of ?_ ?_; exact True.intro) | (refine ckP_of ?_ ?_; exact rfl) | (refine ckP_of ?_ ?_; exact ⟨rfl, rfl⟩) | (refine ckP_of ?_ ?_; exact ⟨True.intro, True.intro⟩) | (refine ckP_of ?_ ?_; exact asg_fr (by assumption) rfl) | (refine ckP_of ?_ ?_; exact ⟨asg_fr (by assumption) rfl, True.intro⟩) | refine brP_t rfl ?_ | refine brP_f rfl ?_ | fail)
local macro_rules | `(tactic| walk_at "gm") => `(tactic| (walk_at "gw"; repeat' (walk_at "g1"; walk_at "gw")))
open CR
def psB (ps : List Int) : Bool := decide (ps.length ≤ 12) && ps.all fun p => decide (1 ≤ p) && decide (p ≤ 1000000)
def bsB (ps bs : List Int) : Bool := decide (bs.length = ps.length) && (List.range ps.length).all fun c => decide (0 ≤ at0 bs c) && decide (at0 bs c < at0 ps c)
theorem psB_ok {ps : List Int} (h : psB ps = true) : PsOk ps := by
  unfold psB at h
  rw [Bool.and_eq_true, decide_eq_true_eq, List.all_eq_true] at h
  refine ⟨h.1, fun p hp => ?_⟩
  have := h.2 p hp
  rw [Bool.and_eq_true, decide_eq_true_eq, decide_eq_true_eq] at this
  exact this
theorem bsB_ok {ps bs : List Int} (h : bsB ps bs = true) : BsOk ps bs := by
  unfold bsB at h
  rw [Bool.and_eq_true, decide_eq_true_eq, List.all_eq_true] at h
  refine ⟨h.1, fun c hc => ?_⟩
  have := h.2 c (List.mem_range.mpr hc)
  rw [Bool.and_eq_true, decide_eq_true_eq, decide_eq_true_eq] at this
  exact this
theorem sh_lit {ps bs : List Int} {x y : Int} (h : (decide ((idleN ps bs (Wn ps) : Int) / gI (idleN ps bs (Wn ps)) (Wn ps) = x) && decide ((Wn ps : Int) / gI (idleN ps bs (Wn ps)) (Wn ps) = y)) = true) : shD ps bs = .tuple [.int x, .int y] := by
  rw [Bool.and_eq_true, decide_eq_true_eq, decide_eq_true_eq] at h
  unfold shD frD
  rw [h.1, h.2]
theorem id_lit {ps bs : List Int} {o : Option Nat} (h : (List.range (Wn ps)).find? (idl ps bs) = o) : idD ps bs = optD o := by unfold idD; rw [h]
theorem pb_lit {ps bs : List Int} (h : (psB ps && bsB ps bs && decide (1 ≤ ps.length)) = true) : PbOk (ps, bs) := by
  rw [Bool.and_eq_true, Bool.and_eq_true, decide_eq_true_eq] at h
  exact ⟨psB_ok h.1.1, bsB_ok h.1.2, h.2⟩
theorem wk_lit {ps bs : List Int} (h : (psB ps && bsB ps bs && decide (1 ≤ ps.length) && decide (Wn ps ≤ 100000)) = true) : WkOk (ps, bs) := by
  rw [Bool.and_eq_true, decide_eq_true_eq] at h
  obtain ⟨h1, h2⟩ := h
  obtain ⟨a, b, c⟩ := pb_lit h1
  exact ⟨a, b, c, h2⟩
def hvL : List Int := [2, 4, 8, 16, 32, 64, 128, 256, 512, 1024]
def hbL (n : Nat) : List Int := (hvL.take n).map fun p => p / 2 - 1
theorem hv_all : ∀ n ∈ ([6, 7, 8, 9, 10] : List Nat), (psB (hvL.take n) && bsB (hvL.take n) (hbL n) && decide (1 ≤ (hvL.take n).length) && decide (Wn (hvL.take n) ≤ 100000)) = true ∧ (List.range (Wn (hvL.take n))).find? (idl (hvL.take n) (hbL n)) = some (at0 hvL (n - 1) - 1).toNat ∧ 1 ≤ at0 hvL (n - 1) := by decide +kernel
theorem call_sm {o : Option FS} {p : List PyData} {Qx : EX → List U → Prop} {Q : U → List U → Prop} (ho : o = some smS) (hp : VatOk p) (q : ∀ p', VatOk p' → Q (.v (.bool true)) [.r p']) : callP o [.r p] Qx Q :=
  callP_of smS ho p rfl hp (by rintro r us' ⟨p', rfl, k1, rfl⟩; exact q p' k1) fun _ _ h => h.elim
theorem call_gr {o : Option FS} {p : List PyData} {ks : List Nat} {most m : Int} {l : PyData} {Qx : EX → List U → Prop} {Q : U → List U → Prop} (ho : o = some grS) (h : PaOk (p, 9, ks, most)) (em : m = most) (el : l = .list (ks.map nI)) (q : ∀ p', VatOk p' → Q (.v (.bool true)) [.r p', .v (.int m), .v l]) : callP o [.r p, .v (.int m), .v l] Qx Q := by
  subst el em
  exact callP_of grS ho (p, m, ks) rfl h (by rintro r us' ⟨p', rfl, k1, rfl⟩; exact q p' k1) fun _ _ h => h.elim
def lawS : FS := { α := List Int, args := fun ns => [.s ns], pre := fun _ => True, post := fun _ r _ => r = .v (.bool true) }
def ptL : List (List Nat) := [[2], [10], [2, 3, 5], [7, 2]]
def halfD : PyData → PyData
  | .int p => .int (p / 2 - 1)
  | d => d
theorem w_law (ns : List Int) : wpF (gam [vatS, smS, dipS, grS, idS, ecS, isS, sameT, lsS]) 60 b_law 6 [.s ns] (fun r _ => r = .v (.bool true)) (fun _ _ => False) := by
  have l1 : shD [2, 3] [0, 0] = .tuple [.int 1, .int 3] := sh_lit (by decide +kernel)
  have l2 : exactB [2, 3, 6] [0, 1, 5] (Wn [2, 3, 6]) = false := by decide +kernel
  have l3 : idD [2, 4, 4] [0, 1, 3] = optD none := id_lit (by decide +kernel)
  have l4 : shD [2, 3, 6] [0, 1, 5] = .tuple [.int 1, .int 6] := sh_lit (by decide +kernel)
  have l5 : exactB [2, 4, 8, 8] [0, 1, 3, 7] (Wn [2, 4, 8, 8]) = true := by decide +kernel
  have l6 : exactB [1] [0] (Wn [1]) = true := by decide +kernel
  have l7 : idD [2, 4, 8, 16, 32] [0, 1, 3, 7, 15] = optD (some 31) := id_lit (by decide +kernel)
  walk_at "gm"
  refine call_vat rfl fun p0 hp0 => ?_
  walk_at "gm"
  refine call_sm rfl hp0 fun p1 hp1 => ?_
  walk_at "gm"
  refine call_sm rfl hp1 fun p2 hp2 => ?_
  walk_at "gm"
  refine ckP_of ⟨by decide, by decide, by decide⟩ ?_
  rw [show (10 : Int) ^ (6 : Int).toNat = 1000000 by decide]
  walk_at "gm"
  refine call_dip rfl hp2 (by decide) (by decide) fun k p3 k0 k1 hp3 => ?_
  walk_at "gm"
  obtain ⟨_, ex, ks, hks, rfl⟩ := pick_list (P := fun d => ∃ ks ∈ ptL, d = .list (ks.map nI)) (xs := ptL.map fun ks => .list (ks.map nI)) k0 k1 (fun x hx => by
    obtain ⟨ks, hk, rfl⟩ := List.mem_map.mp hx
    exact ⟨ks, hk, rfl⟩)
  refine optP_of ex ?_
  walk_at "gm"
  have hpk : ∀ ks ∈ ptL, 1 ≤ ks.length ∧ ks.length ≤ 10 ∧ ∀ k ∈ ks, 1 ≤ k ∧ k ≤ 10 := by decide
  obtain ⟨y1, y2, y3⟩ := hpk ks hks
  refine call_gr rfl (ks := ks) (most := 1000000) ⟨hp3, show 9 ≤ 9 by decide, y1, y2, y3, show (1 : Int) ≤ 1000000 by decide, show (1000000 : Int) ≤ 1000000 by decide⟩ rfl rfl fun p4 hp4 => ?_
  walk_at "gm"
  refine call_val (args := isU) rfl ([2, 3], [0, 0]) rfl (pb_lit (by decide +kernel)) ?_
  rw [show shD (([2, 3], [0, 0]) : List Int × List Int).1 (([2, 3], [0, 0]) : List Int × List Int).2 = _ from l1]
  walk_at "gm"
  refine call_sameT rfl rfl (by decide) (by decide) ?_
  walk_at "gm"
  refine call_val (args := isU) rfl ([2, 3, 6], [0, 1, 5]) rfl (pb_lit (by decide +kernel)) ?_
  rw [show exactB (([2, 3, 6], [0, 1, 5]) : List Int × List Int).1 (([2, 3, 6], [0, 1, 5]) : List Int × List Int).2 (Wn (([2, 3, 6], [0, 1, 5]) : List Int × List Int).1) = _ from l2]
  walk_at "gm"
  refine call_val (args := isU) rfl ([2, 4, 4], [0, 1, 3]) rfl (wk_lit (by decide +kernel)) ?_
  rw [show idD (([2, 4, 4], [0, 1, 3]) : List Int × List Int).1 (([2, 4, 4], [0, 1, 3]) : List Int × List Int).2 = .none from l3]
  walk_at "gm"
  refine call_val (args := isU) rfl ([2, 3, 6], [0, 1, 5]) rfl (pb_lit (by decide +kernel)) ?_
  rw [show shD (([2, 3, 6], [0, 1, 5]) : List Int × List Int).1 (([2, 3, 6], [0, 1, 5]) : List Int × List Int).2 = _ from l4]
  walk_at "gm"
  refine call_sameT rfl rfl (by decide) (by decide) ?_
  walk_at "gm"
  refine call_val (args := isU) rfl ([2, 4, 8, 8], [0, 1, 3, 7]) rfl (pb_lit (by decide +kernel)) ?_
  rw [show exactB (([2, 4, 8, 8], [0, 1, 3, 7]) : List Int × List Int).1 (([2, 4, 8, 8], [0, 1, 3, 7]) : List Int × List Int).2 (Wn (([2, 4, 8, 8], [0, 1, 3, 7]) : List Int × List Int).1) = _ from l5]
  walk_at "gm"
  refine call_val (args := isU) rfl ([1], [0]) rfl (pb_lit (by decide +kernel)) ?_
  rw [show exactB (([1], [0]) : List Int × List Int).1 (([1], [0]) : List Int × List Int).2 (Wn (([1], [0]) : List Int × List Int).1) = _ from l6]
  walk_at "gm"
  refine call_val (args := isU) rfl ([2, 4, 8, 16, 32], [0, 1, 3, 7, 15]) rfl (wk_lit (by decide +kernel)) ?_
  rw [show idD (([2, 4, 8, 16, 32], [0, 1, 3, 7, 15]) : List Int × List Int).1 (([2, 4, 8, 16, 32], [0, 1, 3, 7, 15]) : List Int × List Int).2 = .int 31 from l7]
  walk_at "gm"
  refine call_sameT rfl rfl (by decide) (by decide) ?_
  walk_at "gm"
  have kb : PbOk ([1000000, 999983], [3, 3]) := pb_lit (by decide +kernel)
  refine call_val (args := isU) rfl ([1000000, 999983], [3, 3]) rfl kb ?_
  walk_at "gm"
  refine call_val (args := isU) rfl ([1000000, 999983], [3, 3]) rfl ⟨kb.1, kb.2.1⟩ ?_
  walk_at "gm"
  refine call_sameT rfl rfl (okT_sh _ _) (sz_sh _ _) ?_
  walk_at "gm"
  refine call_dip rfl hp4 (by decide) (by decide) fun k11 p5 k110 k111 hp5 => ?_
  walk_at "gm"
  rw [eqv_int]
  refine brP_of (fun q => ?_) fun q => ?_
  · walk_at "gm"
  walk_at "gm"
  refine call_dip rfl hp5 (by decide) (by decide) fun f p6 f0 f1 hp6 => ?_
  walk_at "gm"
  obtain ⟨n, hn⟩ := Int.eq_ofNat_of_zero_le (show 0 ≤ 10 - f by omega)
  have hcut : cutL [PyData.int 2, .int 4, .int 8, .int 16, .int 32, .int 64, .int 128, .int 256, .int 512, .int 1024] none (some (10 - f)) = (hvL.take n).map .int := by
    rw [hn]
    exact (cut_none (hvL.map PyData.int) n).trans (List.map_take ..).symm
  obtain ⟨a1, a2, a3⟩ := hv_all n (by simp; omega)
  have hnl : (hvL.take n).length ≤ 10 := by rw [List.length_take]; exact Nat.le_trans (Nat.min_le_right _ _) (by decide)
  rw [hcut]
  refine ckP_of ⟨⟨True.intro, True.intro⟩, by rw [List.length_map]; unfold LIM; omega⟩ ?_
  refine compP_map halfD ?_ ?_
  · intro z hz nx hn2
    obtain ⟨q, hq, rfl⟩ := List.mem_map.mp hz
    walk_at "gm"
    refine ckP_of (divC_of (by decide) (by decide)) ?_
    walk_at "gm"
    exact hn2
  rw [show ((hvL.take n).map PyData.int).map halfD = (hbL n).map .int by unfold hbL; rw [List.map_map, List.map_map]; rfl]
  walk_at "gm"
  rw [hcut]
  refine call_val (args := isU) rfl (hvL.take n, hbL n) rfl (wk_lit a1) ?_
  rw [show idD (hvL.take n, hbL n).1 (hvL.take n, hbL n).2 = .int (at0 hvL (n - 1) - 1).toNat from id_lit a2]
  walk_at "gm"
  refine optP_of (show idxD (.list (hvL.map .int)) (.int (9 - f)) = some (.int (at0 hvL (n - 1))) from ?_) ?_
  · rw [show (9 : Int) - f = ((n - 1 : Nat) : Int) by omega]
    refine idx_list (Int.natCast_nonneg _) ?_
    rw [Int.toNat_natCast, List.getElem?_map, at_get (by show n - 1 < 10; omega)]
    rfl
  walk_at "gm"
  refine call_sameT rfl (congrArg PyData.int (Int.toNat_of_nonneg (by omega))) (by simp [okT]) (by simp [szD]) ?_
  walk_at "gm"
end GL

set_option maxRecDepth 100000
set_option maxHeartbeats 0
namespace GL
open PySem PySem.Spec PyProof.Rows L2 GM
theorem fns_nil {Q : Nat → FS → Prop} : ∀ f S, gam [] f = some S → Q f S := fun f S h => by
  unfold gam at h
  simp at h
theorem fns_cons {Q : Nat → FS → Prop} {S0 : FS} {l : List FS} (h0 : Q 0 S0) (ht : ∀ f S, gam l f = some S → Q (f + 1) S) : ∀ f S, gam (S0 :: l) f = some S → Q f S := fun f S h => by
  cases f with
  | zero =>
    have e : S0 = S := Option.some.inj h
    rw [← e]; exact h0
  | succ f => exact ht f S h
theorem full_of {l : List FS} {ns : List Str} (h : l.length = ns.length) : ∀ f x, ns[f]? = some x → ∃ S, gam l f = some S := fun f x e => by
  have hl := (List.getElem?_eq_some_iff.mp e).1
  exact ⟨l[f], List.getElem?_eq_getElem (by omega)⟩
def CT0 : CTab := fun _ => none
theorem end_sp {K : PySem.W.Frag} {H : Hp} {a : Addr} {ns : List Int} (hS : SqL K H a (ns.map V.int)) (hl : ns.length ≤ 63) : spOf K CT0 lawS [.ref a] H (fun v _ => v = .bl true) fun _ _ _ => False := by
  have nr : ∀ b, ¬ RefAt [V.ref a] [U.s ns] b := by
    rintro b ⟨i, xs, h1, _⟩
    cases i with
    | zero => cases h1
    | succ i => simp at h1
  have hP : ∀ b o, H b = some o → Prot H [V.ref a] [U.s ns] b = some o := fun b o h => by
    unfold Prot
    rw [if_neg (nr b)]
    exact h
  refine ⟨ns, fun _ => none, fun _ _ z => (by cases z), .cons ⟨a, rfl, Same.seq hP hS, ?_⟩ .nil, ?_, trivial, ?_, ?_⟩
  · unfold LIM; omega
  · intro i j xs ys b ne h1
    cases i with
    | zero => cases h1
    | succ i => exact absurd h1 (by simp [lawS])
  · rintro r us' v F' H' h _ rn
    have e : r = .v (.bool true) := h
    subst e
    cases rn
    rfl
  · intro x us' cls d F' H' h
    exact h.elim
theorem all_mk {P : Program} {w : World} {K : PySem.W.Frag} {h : Heap} {mg : Str → Option Value} {fa : Addr} (X : K.In h) (G : h.Ns mainGlobals mg) (hfa : mg "law" = some (.ref fa))
    {f0 : Addr} {od0 an0 : Option Addr} {sl0 : Array (Option Value)} {oc0 kV0 dc0 pm0 cd0 ct0 : Value} (a0 : PySem.W.nsIn K mainGlobals "_law_vat" = some (some (.ref f0))) (l0 : K.lookup f0 = some ⟨oc0, od0, .func (PySem.W.fnOf "_law_vat" "_law_vat" (defArgs s_l_vat) (defBody s_l_vat) (defScope s_l_vat) .none kV0 dc0 pm0 an0 cd0 ct0), sl0⟩) (c0 : PySem.W.codeIn K cd0 "_law_vat" = true) (k0 : PySem.W.keepIn K (.ref f0) = true)
    {f1 : Addr} {od1 an1 : Option Addr} {sl1 : Array (Option Value)} {oc1 kV1 dc1 pm1 cd1 ct1 : Value} (a1 : PySem.W.nsIn K mainGlobals "_law_dip" = some (some (.ref f1))) (l1 : K.lookup f1 = some ⟨oc1, od1, .func (PySem.W.fnOf "_law_dip" "_law_dip" (defArgs s_l_dip) (defBody s_l_dip) (defScope s_l_dip) .none kV1 dc1 pm1 an1 cd1 ct1), sl1⟩) (c1 : PySem.W.codeIn K cd1 "_law_dip" = true) (k1 : PySem.W.keepIn K (.ref f1) = true)
    {f2 : Addr} {od2 an2 : Option Addr} {sl2 : Array (Option Value)} {oc2 kV2 dc2 pm2 cd2 ct2 : Value} (a2 : PySem.W.nsIn K mainGlobals "_law_same" = some (some (.ref f2))) (l2 : K.lookup f2 = some ⟨oc2, od2, .func (PySem.W.fnOf "_law_same" "_law_same" (defArgs s_l_same) (defBody s_l_same) (defScope s_l_same) .none kV2 dc2 pm2 an2 cd2 ct2), sl2⟩) (c2 : PySem.W.codeIn K cd2 "_law_same" = true) (k2 : PySem.W.keepIn K (.ref f2) = true)
    {f3 : Addr} {od3 an3 : Option Addr} {sl3 : Array (Option Value)} {oc3 kV3 dc3 pm3 cd3 ct3 : Value} (a3 : PySem.W.nsIn K mainGlobals "_law_parted" = some (some (.ref f3))) (l3 : K.lookup f3 = some ⟨oc3, od3, .func (PySem.W.fnOf "_law_parted" "_law_parted" (defArgs s_l_parted) (defBody s_l_parted) (defScope s_l_parted) .none kV3 dc3 pm3 an3 cd3 ct3), sl3⟩) (c3 : PySem.W.codeIn K cd3 "_law_parted" = true) (k3 : PySem.W.keepIn K (.ref f3) = true)
    {f4 : Addr} {od4 an4 : Option Addr} {sl4 : Array (Option Value)} {oc4 kV4 dc4 pm4 cd4 ct4 : Value} (a4 : PySem.W.nsIn K mainGlobals "do_meet" = some (some (.ref f4))) (l4 : K.lookup f4 = some ⟨oc4, od4, .func (PySem.W.fnOf "do_meet" "do_meet" (defArgs s_do_meet) (defBody s_do_meet) (defScope s_do_meet) .none kV4 dc4 pm4 an4 cd4 ct4), sl4⟩) (c4 : PySem.W.codeIn K cd4 "do_meet" = true) (k4 : PySem.W.keepIn K (.ref f4) = true)
    {f5 : Addr} {od5 an5 : Option Addr} {sl5 : Array (Option Value)} {oc5 kV5 dc5 pm5 cd5 ct5 : Value} (a5 : PySem.W.nsIn K mainGlobals "meeting_lots" = some (some (.ref f5))) (l5 : K.lookup f5 = some ⟨oc5, od5, .func (PySem.W.fnOf "meeting_lots" "meeting_lots" (defArgs s_meeting_lots) (defBody s_meeting_lots) (defScope s_meeting_lots) .none kV5 dc5 pm5 an5 cd5 ct5), sl5⟩) (c5 : PySem.W.codeIn K cd5 "meeting_lots" = true) (k5 : PySem.W.keepIn K (.ref f5) = true)
    {f6 : Addr} {od6 an6 : Option Addr} {sl6 : Array (Option Value)} {oc6 kV6 dc6 pm6 cd6 ct6 : Value} (a6 : PySem.W.nsIn K mainGlobals "most_at_once" = some (some (.ref f6))) (l6 : K.lookup f6 = some ⟨oc6, od6, .func (PySem.W.fnOf "most_at_once" "most_at_once" (defArgs s_most_at_once) (defBody s_most_at_once) (defScope s_most_at_once) .none kV6 dc6 pm6 an6 cd6 ct6), sl6⟩) (c6 : PySem.W.codeIn K cd6 "most_at_once" = true) (k6 : PySem.W.keepIn K (.ref f6) = true)
    {f7 : Addr} {od7 an7 : Option Addr} {sl7 : Array (Option Value)} {oc7 kV7 dc7 pm7 cd7 ct7 : Value} (a7 : PySem.W.nsIn K mainGlobals "common_period" = some (some (.ref f7))) (l7 : K.lookup f7 = some ⟨oc7, od7, .func (PySem.W.fnOf "common_period" "common_period" (defArgs s_common_period) (defBody s_common_period) (defScope s_common_period) .none kV7 dc7 pm7 an7 cd7 ct7), sl7⟩) (c7 : PySem.W.codeIn K cd7 "common_period" = true) (k7 : PySem.W.keepIn K (.ref f7) = true)
    {f8 : Addr} {od8 an8 : Option Addr} {sl8 : Array (Option Value)} {oc8 kV8 dc8 pm8 cd8 ct8 : Value} (a8 : PySem.W.nsIn K mainGlobals "fraction" = some (some (.ref f8))) (l8 : K.lookup f8 = some ⟨oc8, od8, .func (PySem.W.fnOf "fraction" "fraction" (defArgs s_fraction) (defBody s_fraction) (defScope s_fraction) .none kV8 dc8 pm8 an8 cd8 ct8), sl8⟩) (c8 : PySem.W.codeIn K cd8 "fraction" = true) (k8 : PySem.W.keepIn K (.ref f8) = true)
    {f9 : Addr} {od9 an9 : Option Addr} {sl9 : Array (Option Value)} {oc9 kV9 dc9 pm9 cd9 ct9 : Value} (a9 : PySem.W.nsIn K mainGlobals "idle_share" = some (some (.ref f9))) (l9 : K.lookup f9 = some ⟨oc9, od9, .func (PySem.W.fnOf "idle_share" "idle_share" (defArgs s_idle_share) (defBody s_idle_share) (defScope s_idle_share) .none kV9 dc9 pm9 an9 cd9 ct9), sl9⟩) (c9 : PySem.W.codeIn K cd9 "idle_share" = true) (k9 : PySem.W.keepIn K (.ref f9) = true)
    {f10 : Addr} {od10 an10 : Option Addr} {sl10 : Array (Option Value)} {oc10 kV10 dc10 pm10 cd10 ct10 : Value} (a10 : PySem.W.nsIn K mainGlobals "is_exact_cover" = some (some (.ref f10))) (l10 : K.lookup f10 = some ⟨oc10, od10, .func (PySem.W.fnOf "is_exact_cover" "is_exact_cover" (defArgs s_is_exact_cover) (defBody s_is_exact_cover) (defScope s_is_exact_cover) .none kV10 dc10 pm10 an10 cd10 ct10), sl10⟩) (c10 : PySem.W.codeIn K cd10 "is_exact_cover" = true) (k10 : PySem.W.keepIn K (.ref f10) = true)
    {f11 : Addr} {od11 an11 : Option Addr} {sl11 : Array (Option Value)} {oc11 kV11 dc11 pm11 cd11 ct11 : Value} (a11 : PySem.W.nsIn K mainGlobals "_law_gcd" = some (some (.ref f11))) (l11 : K.lookup f11 = some ⟨oc11, od11, .func (PySem.W.fnOf "_law_gcd" "_law_gcd" (defArgs s_l_gcd) (defBody s_l_gcd) (defScope s_l_gcd) .none kV11 dc11 pm11 an11 cd11 ct11), sl11⟩) (c11 : PySem.W.codeIn K cd11 "_law_gcd" = true) (k11 : PySem.W.keepIn K (.ref f11) = true)
    {f12 : Addr} {od12 an12 : Option Addr} {sl12 : Array (Option Value)} {oc12 kV12 dc12 pm12 cd12 ct12 : Value} (a12 : PySem.W.nsIn K mainGlobals "_law_common" = some (some (.ref f12))) (l12 : K.lookup f12 = some ⟨oc12, od12, .func (PySem.W.fnOf "_law_common" "_law_common" (defArgs s_l_common) (defBody s_l_common) (defScope s_l_common) .none kV12 dc12 pm12 an12 cd12 ct12), sl12⟩) (c12 : PySem.W.codeIn K cd12 "_law_common" = true) (k12 : PySem.W.keepIn K (.ref f12) = true)
    {f13 : Addr} {od13 an13 : Option Addr} {sl13 : Array (Option Value)} {oc13 kV13 dc13 pm13 cd13 ct13 : Value} (a13 : PySem.W.nsIn K mainGlobals "_law_agrees" = some (some (.ref f13))) (l13 : K.lookup f13 = some ⟨oc13, od13, .func (PySem.W.fnOf "_law_agrees" "_law_agrees" (defArgs s_l_agrees) (defBody s_l_agrees) (defScope s_l_agrees) .none kV13 dc13 pm13 an13 cd13 ct13), sl13⟩) (c13 : PySem.W.codeIn K cd13 "_law_agrees" = true) (k13 : PySem.W.keepIn K (.ref f13) = true)
    {f14 : Addr} {od14 an14 : Option Addr} {sl14 : Array (Option Value)} {oc14 kV14 dc14 pm14 cd14 ct14 : Value} (a14 : PySem.W.nsIn K mainGlobals "_law_exact" = some (some (.ref f14))) (l14 : K.lookup f14 = some ⟨oc14, od14, .func (PySem.W.fnOf "_law_exact" "_law_exact" (defArgs s_l_exact) (defBody s_l_exact) (defScope s_l_exact) .none kV14 dc14 pm14 an14 cd14 ct14), sl14⟩) (c14 : PySem.W.codeIn K cd14 "_law_exact" = true) (k14 : PySem.W.keepIn K (.ref f14) = true)
    {f15 : Addr} {od15 an15 : Option Addr} {sl15 : Array (Option Value)} {oc15 kV15 dc15 pm15 cd15 ct15 : Value} (a15 : PySem.W.nsIn K mainGlobals "_law_fraction" = some (some (.ref f15))) (l15 : K.lookup f15 = some ⟨oc15, od15, .func (PySem.W.fnOf "_law_fraction" "_law_fraction" (defArgs s_l_fraction) (defBody s_l_fraction) (defScope s_l_fraction) .none kV15 dc15 pm15 an15 cd15 ct15), sl15⟩) (c15 : PySem.W.codeIn K cd15 "_law_fraction" = true) (k15 : PySem.W.keepIn K (.ref f15) = true)
    {f16 : Addr} {od16 an16 : Option Addr} {sl16 : Array (Option Value)} {oc16 kV16 dc16 pm16 cd16 ct16 : Value} (a16 : PySem.W.nsIn K mainGlobals "_law_inverse" = some (some (.ref f16))) (l16 : K.lookup f16 = some ⟨oc16, od16, .func (PySem.W.fnOf "_law_inverse" "_law_inverse" (defArgs s_l_inverse) (defBody s_l_inverse) (defScope s_l_inverse) .none kV16 dc16 pm16 an16 cd16 ct16), sl16⟩) (c16 : PySem.W.codeIn K cd16 "_law_inverse" = true) (k16 : PySem.W.keepIn K (.ref f16) = true)
    {f17 : Addr} {od17 an17 : Option Addr} {sl17 : Array (Option Value)} {oc17 kV17 dc17 pm17 cd17 ct17 : Value} (a17 : PySem.W.nsIn K mainGlobals "_law_meeting" = some (some (.ref f17))) (l17 : K.lookup f17 = some ⟨oc17, od17, .func (PySem.W.fnOf "_law_meeting" "_law_meeting" (defArgs s_l_meeting) (defBody s_l_meeting) (defScope s_l_meeting) .none kV17 dc17 pm17 an17 cd17 ct17), sl17⟩) (c17 : PySem.W.codeIn K cd17 "_law_meeting" = true) (k17 : PySem.W.keepIn K (.ref f17) = true)
    {f18 : Addr} {od18 an18 : Option Addr} {sl18 : Array (Option Value)} {oc18 kV18 dc18 pm18 cd18 ct18 : Value} (a18 : PySem.W.nsIn K mainGlobals "_law_share" = some (some (.ref f18))) (l18 : K.lookup f18 = some ⟨oc18, od18, .func (PySem.W.fnOf "_law_share" "_law_share" (defArgs s_l_share) (defBody s_l_share) (defScope s_l_share) .none kV18 dc18 pm18 an18 cd18 ct18), sl18⟩) (c18 : PySem.W.codeIn K cd18 "_law_share" = true) (k18 : PySem.W.keepIn K (.ref f18) = true)
    {f19 : Addr} {od19 an19 : Option Addr} {sl19 : Array (Option Value)} {oc19 kV19 dc19 pm19 cd19 ct19 : Value} (a19 : PySem.W.nsIn K mainGlobals "_law_great" = some (some (.ref f19))) (l19 : K.lookup f19 = some ⟨oc19, od19, .func (PySem.W.fnOf "_law_great" "_law_great" (defArgs s_l_great) (defBody s_l_great) (defScope s_l_great) .none kV19 dc19 pm19 an19 cd19 ct19), sl19⟩) (c19 : PySem.W.codeIn K cd19 "_law_great" = true) (k19 : PySem.W.keepIn K (.ref f19) = true)
    {f20 : Addr} {od20 an20 : Option Addr} {sl20 : Array (Option Value)} {oc20 kV20 dc20 pm20 cd20 ct20 : Value} (a20 : PySem.W.nsIn K mainGlobals "period_lot" = some (some (.ref f20))) (l20 : K.lookup f20 = some ⟨oc20, od20, .func (PySem.W.fnOf "period_lot" "period_lot" (defArgs s_period_lot) (defBody s_period_lot) (defScope s_period_lot) .none kV20 dc20 pm20 an20 cd20 ct20), sl20⟩) (c20 : PySem.W.codeIn K cd20 "period_lot" = true) (k20 : PySem.W.keepIn K (.ref f20) = true)
    {f21 : Addr} {od21 an21 : Option Addr} {sl21 : Array (Option Value)} {oc21 kV21 dc21 pm21 cd21 ct21 : Value} (a21 : PySem.W.nsIn K mainGlobals "idle_day" = some (some (.ref f21))) (l21 : K.lookup f21 = some ⟨oc21, od21, .func (PySem.W.fnOf "idle_day" "idle_day" (defArgs s_idle_day) (defBody s_idle_day) (defScope s_idle_day) .none kV21 dc21 pm21 an21 cd21 ct21), sl21⟩) (c21 : PySem.W.codeIn K cd21 "idle_day" = true) (k21 : PySem.W.keepIn K (.ref f21) = true)
    {f22 : Addr} {od22 an22 : Option Addr} {sl22 : Array (Option Value)} {oc22 kV22 dc22 pm22 cd22 ct22 : Value} (a22 : PySem.W.nsIn K mainGlobals "_law_by_days" = some (some (.ref f22))) (l22 : K.lookup f22 = some ⟨oc22, od22, .func (PySem.W.fnOf "_law_by_days" "_law_by_days" (defArgs s_l_by_days) (defBody s_l_by_days) (defScope s_l_by_days) .none kV22 dc22 pm22 an22 cd22 ct22), sl22⟩) (c22 : PySem.W.codeIn K cd22 "_law_by_days" = true) (k22 : PySem.W.keepIn K (.ref f22) = true)
    {f23 : Addr} {od23 an23 : Option Addr} {sl23 : Array (Option Value)} {oc23 kV23 dc23 pm23 cd23 ct23 : Value} (a23 : PySem.W.nsIn K mainGlobals "_law_habit" = some (some (.ref f23))) (l23 : K.lookup f23 = some ⟨oc23, od23, .func (PySem.W.fnOf "_law_habit" "_law_habit" (defArgs s_l_habit) (defBody s_l_habit) (defScope s_l_habit) .none kV23 dc23 pm23 an23 cd23 ct23), sl23⟩) (c23 : PySem.W.codeIn K cd23 "_law_habit" = true) (k23 : PySem.W.keepIn K (.ref f23) = true)
    {f24 : Addr} {od24 an24 : Option Addr} {sl24 : Array (Option Value)} {oc24 kV24 dc24 pm24 cd24 ct24 : Value} (a24 : PySem.W.nsIn K mainGlobals "_law_by" = some (some (.ref f24))) (l24 : K.lookup f24 = some ⟨oc24, od24, .func (PySem.W.fnOf "_law_by" "_law_by" (defArgs s_l_by) (defBody s_l_by) (defScope s_l_by) .none kV24 dc24 pm24 an24 cd24 ct24), sl24⟩) (c24 : PySem.W.codeIn K cd24 "_law_by" = true) (k24 : PySem.W.keepIn K (.ref f24) = true)
    {f25 : Addr} {od25 an25 : Option Addr} {sl25 : Array (Option Value)} {oc25 kV25 dc25 pm25 cd25 ct25 : Value} (a25 : PySem.W.nsIn K mainGlobals "_law_small" = some (some (.ref f25))) (l25 : K.lookup f25 = some ⟨oc25, od25, .func (PySem.W.fnOf "_law_small" "_law_small" (defArgs s_l_small) (defBody s_l_small) (defScope s_l_small) .none kV25 dc25 pm25 an25 cd25 ct25), sl25⟩) (c25 : PySem.W.codeIn K cd25 "_law_small" = true) (k25 : PySem.W.keepIn K (.ref f25) = true)
    {f26 : Addr} {od26 an26 : Option Addr} {sl26 : Array (Option Value)} {oc26 kV26 dc26 pm26 cd26 ct26 : Value} (a26 : PySem.W.nsIn K mainGlobals "law" = some (some (.ref f26))) (l26 : K.lookup f26 = some ⟨oc26, od26, .func (PySem.W.fnOf "law" "law" (defArgs s_law) (defBody s_law) (defScope s_law) .none kV26 dc26 pm26 an26 cd26 ct26), sl26⟩) (c26 : PySem.W.codeIn K cd26 "law" = true) (k26 : PySem.W.keepIn K (.ref f26) = true)
    (z0 : PySem.W.nsIn K mainGlobals "len" = some none)
    (z1 : PySem.W.nsIn K mainGlobals "abs" = some none)
    (z2 : PySem.W.nsIn K mainGlobals "int" = some none)
    (z3 : PySem.W.nsIn K mainGlobals "tuple" = some none)
    (z4 : PySem.W.nsIn K mainGlobals "list" = some none)
    (z5 : PySem.W.nsIn K mainGlobals "sorted" = some none)
    (z6 : PySem.W.nsIn K mainGlobals "sum" = some none)
    (z7 : PySem.W.nsIn K mainGlobals "min" = some none)
    (z8 : PySem.W.nsIn K mainGlobals "max" = some none)
    (z9 : PySem.W.nsIn K mainGlobals "isinstance" = some none)
    (z10 : PySem.W.nsIn K mainGlobals "bool" = some none)
    (z11 : PySem.W.nsIn K mainGlobals "str" = some none)
    (z12 : PySem.W.nsIn K mainGlobals "range" = some none)
    (z13 : PySem.W.nsIn K mainGlobals "enumerate" = some none)
    (z14 : PySem.W.nsIn K mainGlobals "zip" = some none)
    (z15 : PySem.W.nsIn K mainGlobals "reversed" = some none)
    (z16 : PySem.W.nsIn K mainGlobals "set" = some none)
    (z17 : PySem.W.nsIn K mainGlobals "dict" = some none)
    (zg : PySem.W.nsIn K mainGlobals "gcd" = some (some (.builtin "math.gcd")))
    (zl : PySem.W.nsIn K mainGlobals "lcm" = some (some (.builtin "math.lcm")))
    : ∃ fd : FuncData, (∀ (s : Shared) (v : Value), BindsTo s fd ⟨[v], []⟩ [("script", v)]) ∧ ∀ base : Heap, K.In base → base.Ns mainGlobals mg → FnOk P w K mg base (L2.CX P w) 6 fa fd ["script"] (spOf K CT0 lawS) := by
  have e := hfa.symm.trans (PySem.W.mg_of X G a26)
  cases e
  have B : ∀ x ∈ blts, mg x = none := fun x hx => by
    simp only [blts, List.mem_cons, List.not_mem_nil, or_false] at hx
    rcases hx with rfl | rfl | rfl | rfl | rfl | rfl | rfl | rfl | rfl | rfl | rfl | rfl | rfl | rfl | rfl | rfl | rfl | rfl
    · exact PySem.W.mg_none_of X G z0
    · exact PySem.W.mg_none_of X G z1
    · exact PySem.W.mg_none_of X G z2
    · exact PySem.W.mg_none_of X G z3
    · exact PySem.W.mg_none_of X G z4
    · exact PySem.W.mg_none_of X G z5
    · exact PySem.W.mg_none_of X G z6
    · exact PySem.W.mg_none_of X G z7
    · exact PySem.W.mg_none_of X G z8
    · exact PySem.W.mg_none_of X G z9
    · exact PySem.W.mg_none_of X G z10
    · exact PySem.W.mg_none_of X G z11
    · exact PySem.W.mg_none_of X G z12
    · exact PySem.W.mg_none_of X G z13
    · exact PySem.W.mg_none_of X G z14
    · exact PySem.W.mg_none_of X G z15
    · exact PySem.W.mg_none_of X G z16
    · exact PySem.W.mg_none_of X G z17
  have F0 := fun_mk (st := s_l_vat) l0 c0 k0
  have b0 := F0.binds (ps := ["script"]) fun _ _ _ _ _ _ us hl => match us, hl with | [_], _ => rfl
  have F1 := fun_mk (st := s_l_dip) l1 c1 k1
  have b1 := F1.binds (ps := ["vat", "many"]) fun _ _ _ _ _ _ us hl => match us, hl with | [_, _], _ => rfl
  have F2 := fun_mk (st := s_l_same) l2 c2 k2
  have b2 := F2.binds (ps := ["told", "due"]) fun _ _ _ _ _ _ us hl => match us, hl with | [_, _], _ => rfl
  have F3 := fun_mk (st := s_l_parted) l3 c3 k3
  have b3 := F3.binds (ps := ["vat", "turns", "parts", "most"]) fun _ _ _ _ _ _ us hl => match us, hl with | [_, _, _, _], _ => rfl
  have F4 := fun_mk (st := s_do_meet) l4 c4 k4
  have b4 := F4.binds (ps := ["periods", "beginnings", "one", "other"]) fun _ _ _ _ _ _ us hl => match us, hl with | [_, _, _, _], _ => rfl
  have F5 := fun_mk (st := s_meeting_lots) l5 c5 k5
  have b5 := F5.binds (ps := ["periods", "beginnings"]) fun _ _ _ _ _ _ us hl => match us, hl with | [_, _], _ => rfl
  have F6 := fun_mk (st := s_most_at_once) l6 c6 k6
  have b6 := F6.binds (ps := ["periods", "beginnings"]) fun _ _ _ _ _ _ us hl => match us, hl with | [_, _], _ => rfl
  have F7 := fun_mk (st := s_common_period) l7 c7 k7
  have b7 := F7.binds (ps := ["periods"]) fun _ _ _ _ _ _ us hl => match us, hl with | [_], _ => rfl
  have F8 := fun_mk (st := s_fraction) l8 c8 k8
  have b8 := F8.binds (ps := ["top", "bottom"]) fun _ _ _ _ _ _ us hl => match us, hl with | [_, _], _ => rfl
  have F9 := fun_mk (st := s_idle_share) l9 c9 k9
  have b9 := F9.binds (ps := ["periods", "beginnings"]) fun _ _ _ _ _ _ us hl => match us, hl with | [_, _], _ => rfl
  have F10 := fun_mk (st := s_is_exact_cover) l10 c10 k10
  have b10 := F10.binds (ps := ["periods", "beginnings"]) fun _ _ _ _ _ _ us hl => match us, hl with | [_, _], _ => rfl
  have F11 := fun_mk (st := s_l_gcd) l11 c11 k11
  have b11 := F11.binds (ps := ["one", "other"]) fun _ _ _ _ _ _ us hl => match us, hl with | [_, _], _ => rfl
  have F12 := fun_mk (st := s_l_common) l12 c12 k12
  have b12 := F12.binds (ps := ["periods"]) fun _ _ _ _ _ _ us hl => match us, hl with | [_], _ => rfl
  have F13 := fun_mk (st := s_l_agrees) l13 c13 k13
  have b13 := F13.binds (ps := ["periods", "beginnings", "one", "other"]) fun _ _ _ _ _ _ us hl => match us, hl with | [_, _, _, _], _ => rfl
  have F14 := fun_mk (st := s_l_exact) l14 c14 k14
  have b14 := F14.binds (ps := ["periods", "beginnings"]) fun _ _ _ _ _ _ us hl => match us, hl with | [_, _], _ => rfl
  have F15 := fun_mk (st := s_l_fraction) l15 c15 k15
  have b15 := F15.binds (ps := ["top", "bottom"]) fun _ _ _ _ _ _ us hl => match us, hl with | [_, _], _ => rfl
  have F16 := fun_mk (st := s_l_inverse) l16 c16 k16
  have b16 := F16.binds (ps := ["number", "modulus"]) fun _ _ _ _ _ _ us hl => match us, hl with | [_, _], _ => rfl
  have F17 := fun_mk (st := s_l_meeting) l17 c17 k17
  have b17 := F17.binds (ps := ["periods", "beginnings", "lot"]) fun _ _ _ _ _ _ us hl => match us, hl with | [_, _, _], _ => rfl
  have F18 := fun_mk (st := s_l_share) l18 c18 k18
  have b18 := F18.binds (ps := ["periods", "beginnings"]) fun _ _ _ _ _ _ us hl => match us, hl with | [_, _], _ => rfl
  have F19 := fun_mk (st := s_l_great) l19 c19 k19
  have b19 := F19.binds (ps := ["vat", "most", "parts"]) fun _ _ _ _ _ _ us hl => match us, hl with | [_, _, _], _ => rfl
  have F20 := fun_mk (st := s_period_lot) l20 c20 k20
  have b20 := F20.binds (ps := ["periods", "beginnings", "day"]) fun _ _ _ _ _ _ us hl => match us, hl with | [_, _, _], _ => rfl
  have F21 := fun_mk (st := s_idle_day) l21 c21 k21
  have b21 := F21.binds (ps := ["periods", "beginnings"]) fun _ _ _ _ _ _ us hl => match us, hl with | [_, _], _ => rfl
  have F22 := fun_mk (st := s_l_by_days) l22 c22 k22
  have b22 := F22.binds (ps := ["periods", "beginnings"]) fun _ _ _ _ _ _ us hl => match us, hl with | [_, _], _ => rfl
  have F23 := fun_mk (st := s_l_habit) l23 c23 k23
  have b23 := F23.binds (ps := ["vat"]) fun _ _ _ _ _ _ us hl => match us, hl with | [_], _ => rfl
  have F24 := fun_mk (st := s_l_by) l24 c24 k24
  have b24 := F24.binds (ps := ["vat", "habit", "many"]) fun _ _ _ _ _ _ us hl => match us, hl with | [_, _, _], _ => rfl
  have F25 := fun_mk (st := s_l_small) l25 c25 k25
  have b25 := F25.binds (ps := ["vat"]) fun _ _ _ _ _ _ us hl => match us, hl with | [_], _ => rfl
  have F26 := fun_mk (st := s_law) l26 c26 k26
  have b26 := F26.binds (ps := ["script"]) fun _ _ _ _ _ _ us hl => match us, hl with | [_], _ => rfl
  have XC : ∀ c C ns, CT0 c = some (C, ns) → ErrC K C ns := fun c C ns h => nomatch h
  refine ⟨PySem.W.fnOf "law" "law" (defArgs s_law) (defBody s_law) (defScope s_law) .none kV26 dc26 pm26 an26 cd26 ct26, fun s v => .of_eq rfl, fun base _ _ => ?_⟩
  have G0 : FnOk P w K mg base (L2.CX P w) 1 f0 _ ["script"] (spOf K CT0 vatS) := fn_ok F0 sc_l_vat rfl rfl (fun _ h => stOf_loc h)
    ⟨B, fun h => (by cases h), fun h => (by cases h), fun x i h => (by cases h), fns_nil, full_of (l := []) rfl, XC, (fun d x h => (by cases h)), (fun c x ns h => (by cases h))⟩ ck_l_vat (fun a _ => by first | exact rfl | (cases a <;> exact rfl)) (fun a _ => w_l_vat a)
  have G1 : FnOk P w K mg base (L2.CX P w) 1 f1 _ ["vat", "many"] (spOf K CT0 dipS) := fn_ok F1 sc_l_dip rfl rfl (fun _ h => stOf_loc h)
    ⟨B, fun h => (by cases h), fun h => (by cases h), fun x i h => (by cases h), fns_nil, full_of (l := []) rfl, XC, (fun d x h => (by cases h)), (fun c x ns h => (by cases h))⟩ ck_l_dip (fun a _ => by first | exact rfl | (cases a <;> exact rfl)) (fun a h => w_l_dip a.1 a.2 h.1 h.2.1 h.2.2)
  have G2 : FnOk P w K mg base (L2.CX P w) 1 f2 _ ["told", "due"] (spOf K CT0 sameT) := fn_ok F2 sc_l_same rfl rfl (fun _ h => stOf_loc h)
    ⟨B, fun h => (by cases h), fun h => (by cases h), fun x i h => (by cases h), fns_nil, full_of (l := []) rfl, XC, (fun d x h => (by cases h)), (fun c x ns h => (by cases h))⟩ ck_l_same (fun a _ => by first | exact rfl | (cases a <;> exact rfl)) (fun d h => w_l_same d h.1 h.2)
  have G3 : FnOk P w K mg base (L2.CX P w) 2 f3 _ ["vat", "turns", "parts", "most"] (spOf K CT0 paS) := fn_ok F3 sc_l_parted rfl rfl (fun _ h => stOf_loc h)
    ⟨B, fun h => (by cases h), fun h => (by cases h), fun x i h => (by cases h), (fns_cons ⟨_, f1, _, _, 1, rfl, PySem.W.mg_of X G a1, k1, b1, G1, by decide, (fun p hp => by cases hp)⟩ fns_nil), full_of (l := [dipS]) rfl, XC, (fun d x h => (by cases h)), (fun c x ns h => (by cases h))⟩ ck_l_parted (fun a _ => by first | exact rfl | (cases a <;> exact rfl)) (fun a h => w_l_parted a.1 a.2.1 a.2.2.1 a.2.2.2 h)
  have G4 : FnOk P w K mg base (L2.CX P w) 1 f4 _ ["periods", "beginnings", "one", "other"] (spOf K CT0 mtS) := fn_ok F4 sc_do_meet rfl rfl (fun _ h => stOf_loc h)
    ⟨B, fun _ => PySem.W.mg_of X G zg, fun h => (by cases h), fun x i h => (by cases h), fns_nil, full_of (l := []) rfl, XC, (fun d x h => (by cases h)), (fun c x ns h => (by cases h))⟩ ck_do_meet (fun a _ => by first | exact rfl | (cases a <;> exact rfl)) (fun a h => w_do_meet a.1 a.2.1 a.2.2.1 a.2.2.2 h.1 h.2.1 h.2.2.1 h.2.2.2)
  have G5 : FnOk P w K mg base (L2.CX P w) 2 f5 _ ["periods", "beginnings"] (spOf K CT0 mlS) := fn_ok F5 sc_meeting_lots rfl rfl (fun _ h => stOf_loc h)
    ⟨B, fun h => (by cases h), fun h => (by cases h), fun x i h => (by cases h), (fns_cons ⟨_, f4, _, _, 1, rfl, PySem.W.mg_of X G a4, k4, b4, G4, by decide, (fun p hp => by cases hp)⟩ fns_nil), full_of (l := [mtS]) rfl, XC, (fun d x h => (by cases h)), (fun c x ns h => (by cases h))⟩ ck_meeting_lots (fun a _ => by first | exact rfl | (cases a <;> exact rfl)) (fun a h => w_meeting_lots a.1 a.2 h.1 h.2)
  have G6 : FnOk P w K mg base (L2.CX P w) 3 f6 _ ["periods", "beginnings"] (spOf K CT0 moS) := fn_ok F6 sc_most_at_once rfl rfl (fun _ h => stOf_loc h)
    ⟨B, fun h => (by cases h), fun h => (by cases h), fun x i h => (by cases h), (fns_cons ⟨_, f5, _, _, 2, rfl, PySem.W.mg_of X G a5, k5, b5, G5, by decide, (fun p hp => by cases hp)⟩ fns_nil), full_of (l := [mlS]) rfl, XC, (fun d x h => (by cases h)), (fun c x ns h => (by cases h))⟩ ck_most_at_once (fun a _ => by first | exact rfl | (cases a <;> exact rfl)) (fun a h => w_most_at_once a.1 a.2 h.1.1 h.1.2 h.2)
  have G7 : FnOk P w K mg base (L2.CX P w) 1 f7 _ ["periods"] (spOf K CT0 cpS) := fn_ok F7 sc_common_period rfl rfl (fun _ h => stOf_loc h)
    ⟨B, fun h => (by cases h), fun _ => PySem.W.mg_of X G zl, fun x i h => (by cases h), fns_nil, full_of (l := []) rfl, XC, (fun d x h => (by cases h)), (fun c x ns h => (by cases h))⟩ ck_common_period (fun a _ => by first | exact rfl | (cases a <;> exact rfl)) (fun a h => w_common_period a h)
  have G8 : FnOk P w K mg base (L2.CX P w) 1 f8 _ ["top", "bottom"] (spOf K CT0 frS) := fn_ok F8 sc_fraction rfl rfl (fun _ h => stOf_loc h)
    ⟨B, fun _ => PySem.W.mg_of X G zg, fun h => (by cases h), fun x i h => (by cases h), fns_nil, full_of (l := []) rfl, XC, (fun d x h => (by cases h)), (fun c x ns h => (by cases h))⟩ ck_fraction (fun a _ => by first | exact rfl | (cases a <;> exact rfl)) (fun a h => w_fraction a.1 a.2 h.1 h.2.1 h.2.2)
  have G9 : FnOk P w K mg base (L2.CX P w) 3 f9 _ ["periods", "beginnings"] (spOf K CT0 isS) := fn_ok F9 sc_idle_share rfl rfl (fun _ h => stOf_loc h)
    ⟨B, fun h => (by cases h), fun _ => PySem.W.mg_of X G zl, fun x i h => (by cases h), (fns_cons ⟨_, f7, _, _, 1, rfl, PySem.W.mg_of X G a7, k7, b7, G7, by decide, (fun p hp => by cases hp)⟩ (fns_cons ⟨_, f5, _, _, 2, rfl, PySem.W.mg_of X G a5, k5, b5, G5, by decide, (fun p hp => by cases hp)⟩ (fns_cons ⟨_, f8, _, _, 1, rfl, PySem.W.mg_of X G a8, k8, b8, G8, by decide, (fun p hp => by cases hp)⟩ fns_nil))), full_of (l := [cpS, mlS, frS]) rfl, XC, (fun d x h => (by cases h)), (fun c x ns h => (by cases h))⟩ ck_idle_share (fun a _ => by first | exact rfl | (cases a <;> exact rfl)) (fun a h => w_idle_share a.1 a.2 h.1 h.2.1)
  have G10 : FnOk P w K mg base (L2.CX P w) 4 f10 _ ["periods", "beginnings"] (spOf K CT0 ecS) := fn_ok F10 sc_is_exact_cover rfl rfl (fun _ h => stOf_loc h)
    ⟨B, fun h => (by cases h), fun h => (by cases h), fun x i h => (by cases h), (fns_cons ⟨_, f9, _, _, 3, rfl, PySem.W.mg_of X G a9, k9, b9, G9, by decide, (fun p hp => by cases hp)⟩ (fns_cons ⟨_, f6, _, _, 3, rfl, PySem.W.mg_of X G a6, k6, b6, G6, by decide, (fun p hp => by cases hp)⟩ fns_nil)), full_of (l := [isS, moS]) rfl, XC, (fun d x h => (by cases h)), (fun c x ns h => (by cases h))⟩ ck_is_exact_cover (fun a _ => by first | exact rfl | (cases a <;> exact rfl)) (fun a h => w_is_exact_cover a.1 a.2 h.1 h.2.1 h.2.2)
  have G11 : FnOk P w K mg base (L2.CX P w) 1 f11 _ ["one", "other"] (spOf K CT0 gcdS) := fn_ok F11 sc_l_gcd rfl rfl (fun _ h => stOf_loc h)
    ⟨B, fun h => (by cases h), fun h => (by cases h), fun x i h => (by cases h), fns_nil, full_of (l := []) rfl, XC, (fun d x h => (by cases h)), (fun c x ns h => (by cases h))⟩ ck_l_gcd (fun a _ => by first | exact rfl | (cases a <;> exact rfl)) (fun a _ => w_l_gcd a.1 a.2)
  have G12 : FnOk P w K mg base (L2.CX P w) 2 f12 _ ["periods"] (spOf K CT0 cpS) := fn_ok F12 sc_l_common rfl rfl (fun _ h => stOf_loc h)
    ⟨B, fun h => (by cases h), fun h => (by cases h), fun x i h => (by cases h), (fns_cons ⟨_, f11, _, _, 1, rfl, PySem.W.mg_of X G a11, k11, b11, G11, by decide, (fun p hp => by cases hp)⟩ fns_nil), full_of (l := [gcdS]) rfl, XC, (fun d x h => (by cases h)), (fun c x ns h => (by cases h))⟩ ck_l_common (fun a _ => by first | exact rfl | (cases a <;> exact rfl)) (fun a h => w_l_common a h)
  have G13 : FnOk P w K mg base (L2.CX P w) 2 f13 _ ["periods", "beginnings", "one", "other"] (spOf K CT0 agS) := fn_ok F13 sc_l_agrees rfl rfl (fun _ h => stOf_loc h)
    ⟨B, fun h => (by cases h), fun h => (by cases h), fun x i h => (by cases h), (fns_cons ⟨_, f11, _, _, 1, rfl, PySem.W.mg_of X G a11, k11, b11, G11, by decide, (fun p hp => by cases hp)⟩ fns_nil), full_of (l := [gcdS]) rfl, XC, (fun d x h => (by cases h)), (fun c x ns h => (by cases h))⟩ ck_l_agrees (fun a _ => by first | exact rfl | (cases a <;> exact rfl)) (fun a h => w_l_agrees a.1 a.2.1 a.2.2.1 a.2.2.2 h.1 h.2.1 h.2.2.1 h.2.2.2)
  have G14 : FnOk P w K mg base (L2.CX P w) 3 f14 _ ["periods", "beginnings"] (spOf K CT0 exS) := fn_ok F14 sc_l_exact rfl rfl (fun _ h => stOf_loc h)
    ⟨B, fun h => (by cases h), fun h => (by cases h), fun x i h => (by cases h), (fns_cons ⟨_, f12, _, _, 2, rfl, PySem.W.mg_of X G a12, k12, b12, G12, by decide, (fun p hp => by cases hp)⟩ (fns_cons ⟨_, f13, _, _, 2, rfl, PySem.W.mg_of X G a13, k13, b13, G13, by decide, (fun p hp => by cases hp)⟩ fns_nil)), full_of (l := [cpS, agS]) rfl, XC, (fun d x h => (by cases h)), (fun c x ns h => (by cases h))⟩ ck_l_exact (fun a _ => by first | exact rfl | (cases a <;> exact rfl)) (fun a h => w_l_exact a.1 a.2 h.1 h.2)
  have G15 : FnOk P w K mg base (L2.CX P w) 2 f15 _ ["top", "bottom"] (spOf K CT0 frS) := fn_ok F15 sc_l_fraction rfl rfl (fun _ h => stOf_loc h)
    ⟨B, fun h => (by cases h), fun h => (by cases h), fun x i h => (by cases h), (fns_cons ⟨_, f11, _, _, 1, rfl, PySem.W.mg_of X G a11, k11, b11, G11, by decide, (fun p hp => by cases hp)⟩ fns_nil), full_of (l := [gcdS]) rfl, XC, (fun d x h => (by cases h)), (fun c x ns h => (by cases h))⟩ ck_l_fraction (fun a _ => by first | exact rfl | (cases a <;> exact rfl)) (fun a h => w_l_fraction a.1 a.2 h.1 h.2.1 h.2.2)
  have G16 : FnOk P w K mg base (L2.CX P w) 1 f16 _ ["number", "modulus"] (spOf K CT0 ivS) := fn_ok F16 sc_l_inverse rfl rfl (fun _ h => stOf_loc h)
    ⟨B, fun h => (by cases h), fun h => (by cases h), fun x i h => (by cases h), fns_nil, full_of (l := []) rfl, XC, (fun d x h => (by cases h)), (fun c x ns h => (by cases h))⟩ ck_l_inverse (fun a _ => by first | exact rfl | (cases a <;> exact rfl)) (fun a h => w_l_inverse a.1 a.2 h.1 h.2.1 h.2.2)
  have G17 : FnOk P w K mg base (L2.CX P w) 2 f17 _ ["periods", "beginnings", "lot"] (spOf K CT0 meS) := fn_ok F17 sc_l_meeting rfl rfl (fun _ h => stOf_loc h)
    ⟨B, fun h => (by cases h), fun h => (by cases h), fun x i h => (by cases h), (fns_cons ⟨_, f11, _, _, 1, rfl, PySem.W.mg_of X G a11, k11, b11, G11, by decide, (fun p hp => by cases hp)⟩ (fns_cons ⟨_, f16, _, _, 1, rfl, PySem.W.mg_of X G a16, k16, b16, G16, by decide, (fun p hp => by cases hp)⟩ fns_nil)), full_of (l := [gcdS, ivS]) rfl, XC, (fun d x h => (by cases h)), (fun c x ns h => (by cases h))⟩ ck_l_meeting (fun a _ => by first | exact rfl | (cases a <;> exact rfl)) (fun a h => w_l_meeting a.1 a.2.1 a.2.2 h.1 h.2.1 h.2.2.1 h.2.2.2)
  have G18 : FnOk P w K mg base (L2.CX P w) 3 f18 _ ["periods", "beginnings"] (spOf K CT0 lsS) := fn_ok F18 sc_l_share rfl rfl (fun _ h => stOf_loc h)
    ⟨B, fun h => (by cases h), fun h => (by cases h), fun x i h => (by cases h), (fns_cons ⟨_, f12, _, _, 2, rfl, PySem.W.mg_of X G a12, k12, b12, G12, by decide, (fun p hp => by cases hp)⟩ (fns_cons ⟨_, f17, _, _, 2, rfl, PySem.W.mg_of X G a17, k17, b17, G17, by decide, (fun p hp => by cases hp)⟩ (fns_cons ⟨_, f15, _, _, 2, rfl, PySem.W.mg_of X G a15, k15, b15, G15, by decide, (fun p hp => by cases hp)⟩ fns_nil))), full_of (l := [cpS, meS, frS]) rfl, XC, (fun d x h => (by cases h)), (fun c x ns h => (by cases h))⟩ ck_l_share (fun a _ => by first | exact rfl | (cases a <;> exact rfl)) (fun a h => w_l_share a.1 a.2 h.1 h.2)
  have G19 : FnOk P w K mg base (L2.CX P w) 5 f19 _ ["vat", "most", "parts"] (spOf K CT0 grS) := fn_ok F19 sc_l_great rfl rfl (fun _ h => stOf_loc h)
    ⟨B, fun h => (by cases h), fun h => (by cases h), fun x i h => (by cases h), (fns_cons ⟨_, f3, _, _, 2, rfl, PySem.W.mg_of X G a3, k3, b3, G3, by decide, (fun p hp => by cases hp)⟩ (fns_cons ⟨_, f9, _, _, 3, rfl, PySem.W.mg_of X G a9, k9, b9, G9, by decide, (fun p hp => by cases hp)⟩ (fns_cons ⟨_, f2, _, _, 1, rfl, PySem.W.mg_of X G a2, k2, b2, G2, by decide, (fun p hp => by cases hp)⟩ (fns_cons ⟨_, f10, _, _, 4, rfl, PySem.W.mg_of X G a10, k10, b10, G10, by decide, (fun p hp => by cases hp)⟩ (fns_cons ⟨_, f1, _, _, 1, rfl, PySem.W.mg_of X G a1, k1, b1, G1, by decide, (fun p hp => by cases hp)⟩ (fns_cons ⟨_, f18, _, _, 3, rfl, PySem.W.mg_of X G a18, k18, b18, G18, by decide, (fun p hp => by cases hp)⟩ (fns_cons ⟨_, f14, _, _, 3, rfl, PySem.W.mg_of X G a14, k14, b14, G14, by decide, (fun p hp => by cases hp)⟩ fns_nil))))))), full_of (l := [paS, isS, sameT, ecS, dipS, lsS, exS]) rfl, XC, (fun d x h => (by cases h)), (fun c x ns h => (by cases h))⟩ ck_l_great (fun a _ => by first | exact rfl | (cases a <;> exact rfl)) (fun a h => w_l_great a.1 a.2.1 a.2.2 h)
  have G20 : FnOk P w K mg base (L2.CX P w) 1 f20 _ ["periods", "beginnings", "day"] (spOf K CT0 plS) := fn_ok F20 sc_period_lot rfl rfl (fun _ h => stOf_loc h)
    ⟨B, fun h => (by cases h), fun h => (by cases h), fun x i h => (by cases h), fns_nil, full_of (l := []) rfl, XC, (fun d x h => (by cases h)), (fun c x ns h => (by cases h))⟩ ck_period_lot (fun a _ => by first | exact rfl | (cases a <;> exact rfl)) (fun a h => w_period_lot a.1 a.2.1 a.2.2 h.1 h.2)
  have G21 : FnOk P w K mg base (L2.CX P w) 2 f21 _ ["periods", "beginnings"] (spOf K CT0 idS) := fn_ok F21 sc_idle_day rfl rfl (fun _ h => stOf_loc h)
    ⟨B, fun h => (by cases h), fun h => (by cases h), fun x i h => (by cases h), (fns_cons ⟨_, f7, _, _, 1, rfl, PySem.W.mg_of X G a7, k7, b7, G7, by decide, (fun p hp => by cases hp)⟩ (fns_cons ⟨_, f20, _, _, 1, rfl, PySem.W.mg_of X G a20, k20, b20, G20, by decide, (fun p hp => by cases hp)⟩ fns_nil)), full_of (l := [cpS, plS]) rfl, XC, (fun d x h => (by cases h)), (fun c x ns h => (by cases h))⟩ ck_idle_day (fun a _ => by first | exact rfl | (cases a <;> exact rfl)) (fun a h => w_idle_day a.1 a.2 h.1 h.2.1 h.2.2.2)
  have G22 : FnOk P w K mg base (L2.CX P w) 3 f22 _ ["periods", "beginnings"] (spOf K CT0 bdS) := fn_ok F22 sc_l_by_days rfl rfl (fun _ h => stOf_loc h)
    ⟨B, fun h => (by cases h), fun h => (by cases h), fun x i h => (by cases h), (fns_cons ⟨_, f12, _, _, 2, rfl, PySem.W.mg_of X G a12, k12, b12, G12, by decide, (fun p hp => by cases hp)⟩ (fns_cons ⟨_, f15, _, _, 2, rfl, PySem.W.mg_of X G a15, k15, b15, G15, by decide, (fun p hp => by cases hp)⟩ fns_nil)), full_of (l := [cpS, frS]) rfl, XC, (fun d x h => (by cases h)), (fun c x ns h => (by cases h))⟩ ck_l_by_days (fun a _ => by first | exact rfl | (cases a <;> exact rfl)) (fun a h => w_l_by_days a.1 a.2 h.1 h.2.1 h.2.2.2)
  have G23 : FnOk P w K mg base (L2.CX P w) 2 f23 _ ["vat"] (spOf K CT0 hbS) := fn_ok F23 sc_l_habit rfl rfl (fun _ h => stOf_loc h)
    ⟨B, fun h => (by cases h), fun h => (by cases h), fun x i h => (by cases h), (fns_cons ⟨_, f1, _, _, 1, rfl, PySem.W.mg_of X G a1, k1, b1, G1, by decide, (fun p hp => by cases hp)⟩ fns_nil), full_of (l := [dipS]) rfl, XC, (fun d x h => (by cases h)), (fun c x ns h => (by cases h))⟩ ck_l_habit (fun a _ => by first | exact rfl | (cases a <;> exact rfl)) (fun a h => w_l_habit a h)
  have G24 : FnOk P w K mg base (L2.CX P w) 2 f24 _ ["vat", "habit", "many"] (spOf K CT0 byS) := fn_ok F24 sc_l_by rfl rfl (fun _ h => stOf_loc h)
    ⟨B, fun h => (by cases h), fun h => (by cases h), fun x i h => (by cases h), (fns_cons ⟨_, f1, _, _, 1, rfl, PySem.W.mg_of X G a1, k1, b1, G1, by decide, (fun p hp => by cases hp)⟩ fns_nil), full_of (l := [dipS]) rfl, XC, (fun d x h => (by cases h)), (fun c x ns h => (by cases h))⟩ ck_l_by (fun a _ => by first | exact rfl | (cases a <;> exact rfl)) (fun a h => w_l_by a.1 a.2.1 a.2.2.1 a.2.2.2 h.1 h.2.1 h.2.2.1 h.2.2.2)
  have G25 : FnOk P w K mg base (L2.CX P w) 5 f25 _ ["vat"] (spOf K CT0 smS) := fn_ok F25 sc_l_small rfl rfl (fun _ h => stOf_loc h)
    ⟨B, fun h => (by cases h), fun h => (by cases h), fun x i h => (by cases h), (fns_cons ⟨_, f1, _, _, 1, rfl, PySem.W.mg_of X G a1, k1, b1, G1, by decide, (fun p hp e => by
      simp only [c_l_small, List.mem_cons, List.not_mem_nil, or_false] at hp
      rcases hp with rfl
      · exact absurd e (by decide))⟩ (fns_cons ⟨_, f23, _, _, 2, rfl, PySem.W.mg_of X G a23, k23, b23, G23, by decide, (fun p hp e => by
      simp only [c_l_small, List.mem_cons, List.not_mem_nil, or_false] at hp
      rcases hp with rfl
      · exact absurd e (by decide))⟩ (fns_cons ⟨_, f24, _, _, 2, rfl, PySem.W.mg_of X G a24, k24, b24, G24, by decide, (fun p hp e => by
      simp only [c_l_small, List.mem_cons, List.not_mem_nil, or_false] at hp
      rcases hp with rfl
      · exact absurd e (by decide))⟩ (fns_cons ⟨_, f3, _, _, 2, rfl, PySem.W.mg_of X G a3, k3, b3, G3, by decide, (fun p hp e => by
      simp only [c_l_small, List.mem_cons, List.not_mem_nil, or_false] at hp
      rcases hp with rfl
      · exact absurd e (by decide))⟩ (fns_cons ⟨_, f22, _, _, 3, rfl, PySem.W.mg_of X G a22, k22, b22, G22, by decide, (fun p hp e => by
      simp only [c_l_small, List.mem_cons, List.not_mem_nil, or_false] at hp
      rcases hp with rfl
      · exact absurd e (by decide))⟩ (fns_cons ⟨_, f14, _, _, 3, rfl, PySem.W.mg_of X G a14, k14, b14, G14, by decide, (fun p hp e => by
      simp only [c_l_small, List.mem_cons, List.not_mem_nil, or_false] at hp
      rcases hp with rfl
      · exact absurd e (by decide))⟩ (fns_cons ⟨_, f18, _, _, 3, rfl, PySem.W.mg_of X G a18, k18, b18, G18, by decide, (fun p hp e => by
      simp only [c_l_small, List.mem_cons, List.not_mem_nil, or_false] at hp
      rcases hp with rfl
      · exact absurd e (by decide))⟩ (fns_cons ⟨_, f21, _, _, 2, rfl, PySem.W.mg_of X G a21, k21, b21, G21, by decide, (fun p hp e => by
      simp only [c_l_small, List.mem_cons, List.not_mem_nil, or_false] at hp
      rcases hp with rfl
      · exact absurd e (by decide))⟩ (fns_cons ⟨_, f2, _, _, 1, rfl, PySem.W.mg_of X G a2, k2, b2, G2, by decide, (fun p hp e => by
      simp only [c_l_small, List.mem_cons, List.not_mem_nil, or_false] at hp
      rcases hp with rfl
      · exact absurd e (by decide))⟩ (fns_cons ⟨_, f9, _, _, 3, rfl, PySem.W.mg_of X G a9, k9, b9, G9, by decide, (fun p hp e => by
      simp only [c_l_small, List.mem_cons, List.not_mem_nil, or_false] at hp
      rcases hp with rfl
      · exact fun s us ws _ hu hw => match us, hu, ws, hw with | [], _, [_, _], _ => .of_eq rfl)⟩ (fns_cons ⟨_, f10, _, _, 4, rfl, PySem.W.mg_of X G a10, k10, b10, G10, by decide, (fun p hp e => by
      simp only [c_l_small, List.mem_cons, List.not_mem_nil, or_false] at hp
      rcases hp with rfl
      · exact absurd e (by decide))⟩ fns_nil))))))))))), full_of (l := [dipS, hbS, byS, paS, bdS, exS, lsS, idS, sameT, isS, ecS]) rfl, XC, (fun d x h => (by cases h)), (fun c x ns h => (by cases h))⟩ ck_l_small (fun a _ => by first | exact rfl | (cases a <;> exact rfl)) (fun a h => w_l_small a h)
  have G26 : FnOk P w K mg base (L2.CX P w) 6 fa _ ["script"] (spOf K CT0 lawS) := fn_ok F26 sc_law rfl rfl (fun _ h => stOf_loc h)
    ⟨B, fun h => (by cases h), fun h => (by cases h), fun x i h => (by cases h), (fns_cons ⟨_, f0, _, _, 1, rfl, PySem.W.mg_of X G a0, k0, b0, G0, by decide, (fun p hp => by cases hp)⟩ (fns_cons ⟨_, f25, _, _, 5, rfl, PySem.W.mg_of X G a25, k25, b25, G25, by decide, (fun p hp => by cases hp)⟩ (fns_cons ⟨_, f1, _, _, 1, rfl, PySem.W.mg_of X G a1, k1, b1, G1, by decide, (fun p hp => by cases hp)⟩ (fns_cons ⟨_, f19, _, _, 5, rfl, PySem.W.mg_of X G a19, k19, b19, G19, by decide, (fun p hp => by cases hp)⟩ (fns_cons ⟨_, f21, _, _, 2, rfl, PySem.W.mg_of X G a21, k21, b21, G21, by decide, (fun p hp => by cases hp)⟩ (fns_cons ⟨_, f10, _, _, 4, rfl, PySem.W.mg_of X G a10, k10, b10, G10, by decide, (fun p hp => by cases hp)⟩ (fns_cons ⟨_, f9, _, _, 3, rfl, PySem.W.mg_of X G a9, k9, b9, G9, by decide, (fun p hp => by cases hp)⟩ (fns_cons ⟨_, f2, _, _, 1, rfl, PySem.W.mg_of X G a2, k2, b2, G2, by decide, (fun p hp => by cases hp)⟩ (fns_cons ⟨_, f18, _, _, 3, rfl, PySem.W.mg_of X G a18, k18, b18, G18, by decide, (fun p hp => by cases hp)⟩ fns_nil))))))))), full_of (l := [vatS, smS, dipS, grS, idS, ecS, isS, sameT, lsS]) rfl, XC, (fun d x h => (by cases h)), (fun c x ns h => (by cases h))⟩ ck_law (fun a _ => by first | exact rfl | (cases a <;> exact rfl)) (fun a _ => w_law a)
  exact G26
end GL
open PySem PySem.W PyProof.Rows
set_option maxHeartbeats 0 in
theorem PySem.Challenge.cw_nogapmissed_k32_covers_holds : PySem.Challenge.rw_nogapmissed_k32_covers.Holds := by
  w_on; o_law; k_head; (case hw => w_witness2)
  k_fill
  refine L2.walk_of (l := PySem.Challenge.rw_nogapmissed_k32_covers) (n := 63) (k := 6) (x := "script") (CX := fun w => L2.CX PySem.Challenge.rw_nogapmissed_k32_covers.prog w) (sp := fun w => GM.spOf _ GL.CT0 GL.lawS) rfl (by decide) rfl ⟨rfl, by decide, by decide⟩ (fun w h Y => PySem.W.kIn_of Y) ?F (fun _ H a ns hl _ hS => GL.end_sp hS hl) (fun _ _ _ _ _ (h : L2.CX _ _ _ _ _ _ _ _) => by
    obtain ⟨_, _, _, _, _, _, _, _, _, _, _, _, z⟩ := h
    exact z)
  case F =>
    intro w mg fa h KX G hmg
    refine' GL.all_mk KX G hmg ?a0 ?l0 ?c0 ?k0 ?a1 ?l1 ?c1 ?k1 ?a2 ?l2 ?c2 ?k2 ?a3 ?l3 ?c3 ?k3 ?a4 ?l4 ?c4 ?k4 ?a5 ?l5 ?c5 ?k5 ?a6 ?l6 ?c6 ?k6 ?a7 ?l7 ?c7 ?k7 ?a8 ?l8 ?c8 ?k8 ?a9 ?l9 ?c9 ?k9 ?a10 ?l10 ?c10 ?k10 ?a11 ?l11 ?c11 ?k11 ?a12 ?l12 ?c12 ?k12 ?a13 ?l13 ?c13 ?k13 ?a14 ?l14 ?c14 ?k14 ?a15 ?l15 ?c15 ?k15 ?a16 ?l16 ?c16 ?k16 ?a17 ?l17 ?c17 ?k17 ?a18 ?l18 ?c18 ?k18 ?a19 ?l19 ?c19 ?k19 ?a20 ?l20 ?c20 ?k20 ?a21 ?l21 ?c21 ?k21 ?a22 ?l22 ?c22 ?k22 ?a23 ?l23 ?c23 ?k23 ?a24 ?l24 ?c24 ?k24 ?a25 ?l25 ?c25 ?k25 ?a26 ?l26 ?c26 ?k26 ?z0 ?z1 ?z2 ?z3 ?z4 ?z5 ?z6 ?z7 ?z8 ?z9 ?z10 ?z11 ?z12 ?z13 ?z14 ?z15 ?z16 ?z17 ?zg ?zl
    (case a0 => k_is); (case l0 => k_is); (case c0 => k_is); (case k0 => k_is); (case a1 => k_is); (case l1 => k_is); (case c1 => k_is); (case k1 => k_is); (case a2 => k_is); (case l2 => k_is); (case c2 => k_is); (case k2 => k_is); (case a3 => k_is); (case l3 => k_is); (case c3 => k_is); (case k3 => k_is); (case a4 => k_is); (case l4 => k_is); (case c4 => k_is); (case k4 => k_is); (case a5 => k_is); (case l5 => k_is); (case c5 => k_is); (case k5 => k_is); (case a6 => k_is); (case l6 => k_is); (case c6 => k_is); (case k6 => k_is); (case a7 => k_is); (case l7 => k_is); (case c7 => k_is); (case k7 => k_is); (case a8 => k_is); (case l8 => k_is); (case c8 => k_is); (case k8 => k_is); (case a9 => k_is); (case l9 => k_is); (case c9 => k_is); (case k9 => k_is); (case a10 => k_is); (case l10 => k_is); (case c10 => k_is); (case k10 => k_is); (case a11 => k_is); (case l11 => k_is); (case c11 => k_is); (case k11 => k_is); (case a12 => k_is); (case l12 => k_is); (case c12 => k_is); (case k12 => k_is); (case a13 => k_is); (case l13 => k_is); (case c13 => k_is); (case k13 => k_is); (case a14 => k_is); (case l14 => k_is); (case c14 => k_is); (case k14 => k_is); (case a15 => k_is); (case l15 => k_is); (case c15 => k_is); (case k15 => k_is); (case a16 => k_is); (case l16 => k_is); (case c16 => k_is); (case k16 => k_is); (case a17 => k_is); (case l17 => k_is); (case c17 => k_is); (case k17 => k_is); (case a18 => k_is); (case l18 => k_is); (case c18 => k_is); (case k18 => k_is); (case a19 => k_is); (case l19 => k_is); (case c19 => k_is); (case k19 => k_is); (case a20 => k_is); (case l20 => k_is); (case c20 => k_is); (case k20 => k_is); (case a21 => k_is); (case l21 => k_is); (case c21 => k_is); (case k21 => k_is); (case a22 => k_is); (case l22 => k_is); (case c22 => k_is); (case k22 => k_is); (case a23 => k_is); (case l23 => k_is); (case c23 => k_is); (case k23 => k_is); (case a24 => k_is); (case l24 => k_is); (case c24 => k_is); (case k24 => k_is); (case a25 => k_is); (case l25 => k_is); (case c25 => k_is); (case k25 => k_is); (case a26 => k_is); (case l26 => k_is); (case c26 => k_is); (case k26 => k_is); (case z0 => k_is); (case z1 => k_is); (case z2 => k_is); (case z3 => k_is); (case z4 => k_is); (case z5 => k_is); (case z6 => k_is); (case z7 => k_is); (case z8 => k_is); (case z9 => k_is); (case z10 => k_is); (case z11 => k_is); (case z12 => k_is); (case z13 => k_is); (case z14 => k_is); (case z15 => k_is); (case z16 => k_is); (case z17 => k_is); (case zg => k_is); (case zl => k_is)
