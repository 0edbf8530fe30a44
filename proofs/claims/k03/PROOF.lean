import PyProof.Rows.All
import HandS.ForMost
import HandS.ForExc
import HandS.Wide
import HandS.Flow
import HandS.IsInst
import HandS.TupAny
import HandS.Zip
import HandS.Deep
import HandS.TupLe
import HandS.TupMul
import HandS.SortInts
import HandS.Gcd
import HandS.Conv
import HandS.Rev
import HandS.Style
import KE.KTupSum
import KE.DataMinMax
import HandS.ExcInit
import HandS.ExcField
import HandS.ExcIs
import HandS.ExcOwn
import KE.KExcSuper
import KE.RegKSuper
import KE.KExcIs
import HandS.SetFor
import KE.SortData
import HandS.NamedTupSort
import KE.KIndexOf
import PySem.Challenge.RW_nogapmissed_k03_standings_lots
set_option Elab.async false
set_option linter.all false
set_option maxRecDepth 100000
/-! GM: what the hand layer lacks: sum, max, min of tuples, tuple * int of any sign but 0, enumerate over tuples -/
namespace GM
open PySem PySem.Spec PyProof.Rows L2
open Sem (wp)
section
variable {prog : Program} {w : World} {A : Around} {E : Value → Shared → Prop} {s : Shared} {l : Addr} {xs : Array (Int × Tok)} {its : List Value} {ns : List Int}
theorem tup_intT {Q : Value → Shared → Prop} (hl : s.heap.IsTuple l (intItems xs))
    (h : ∀ s₂ : Shared, s₂ = { s with heap := s.heap.push { cls := .type "tuple_iterator", data := .fields #[.ref l, .int 0 0] } } →
      (s₂.heap.IsTupleIter s.heap.objs.size l 0 ∧ s₂.heap.IsTuple l (intItems xs)) → (∀ b ∈ [s.heap.objs.size, l], b < s₂.heap.objs.size) → l ≠ s.heap.objs.size → Q (.ref s.heap.objs.size) s₂) :
    wpAny (model prog w) A (pyIter (.ref l)) Q E s := by
  have hlt : l < s.heap.objs.size := by obtain ⟨_, e, _⟩ := hl; exact Heap.lt_size e
  refine wpAny_pyIter_tuple hl (h _ rfl ⟨⟨_, Heap.get?_push_size _ rfl, rfl, rfl⟩, hl.push _⟩ (fun b hb => ?_) (Nat.ne_of_lt hlt))
  show b < (s.heap.push _).objs.size
  rw [Heap.size_push]
  rcases List.mem_cons.mp hb with rfl | hb
  · exact Nat.lt_succ_self _
  · rcases List.mem_cons.mp hb with rfl | hb
    · exact Nat.lt_succ_of_lt hlt
    · cases hb
theorem tup_kept {h' : Heap} {ob : Obj} (hk : ∀ b o, b ∉ [s.heap.objs.size] → (s.heap.push ob).get? b = some o → h'.get? b = some o) :
    ∀ b o, s.heap.get? b = some o → h'.get? b = some o := fun b o e => by
  refine hk b o (fun hm => ?_) (Heap.get?_push_of_some _ e)
  rcases List.mem_cons.mp hm with e1 | hm
  · exact absurd (e1 ▸ Heap.lt_size e) (Nat.lt_irrefl _)
  · cases hm
theorem max_tupG {Q : Value → Shared → Prop} (hh : A.handled = none) (hl : s.heap.IsTuple l (intItems xs)) (hne : 0 < xs.size)
    (h : ∀ v h' tk, (intItems xs)[argBest (fun i j => decide (numAt xs i > numAt xs j)) (xs.size - 1)]? = some v → (∀ b o, s.heap.get? b = some o → h'.get? b = some o) → Q v { s with heap := h', toks := tk }) :
    wpAny (model prog w) A (call (.builtin "max") [.ref l]) Q E s := by
  refine call_max_walk (tup_intT hl fun s₂ e st hfp hlI => ?_)
  subst e
  refine ⟨_, _, _, _, _, _, _, rfl, Walks.tuple (A := A.in1) hh _ l hlI (intItems xs), st, hfp, by simpa [intItems] using hne, CmpOf.ints_gt (numAt xs) (fun _ _ => intItems_at), fun v h' tk hP hk => ?_⟩
  exact h v h' tk (by simpa [intItems] using hP) (tup_kept hk)
theorem min_tupG {Q : Value → Shared → Prop} (hh : A.handled = none) (hl : s.heap.IsTuple l (intItems xs)) (hne : 0 < xs.size)
    (h : ∀ v h' tk, (intItems xs)[argBest (fun i j => decide (numAt xs i < numAt xs j)) (xs.size - 1)]? = some v → (∀ b o, s.heap.get? b = some o → h'.get? b = some o) → Q v { s with heap := h', toks := tk }) :
    wpAny (model prog w) A (call (.builtin "min") [.ref l]) Q E s := by
  refine call_min_walk (tup_intT hl fun s₂ e st hfp hlI => ?_)
  subst e
  refine ⟨_, _, _, _, _, _, _, rfl, Walks.tuple (A := A.in1) hh _ l hlI (intItems xs), st, hfp, by simpa [intItems] using hne, CmpOf.ints_lt (numAt xs) (fun _ _ => intItems_at), fun v h' tk hP hk => ?_⟩
  exact h v h' tk (by simpa [intItems] using hP) (tup_kept hk)
theorem sum_rawT {Q : Value → Shared → Prop} (hh : A.handled = none) (hl : s.heap.IsTuple l its.toArray) (hi : IntsAre its ns)
    (h : ∀ h' tk t', (∀ b o, s.heap.get? b = some o → h'.get? b = some o) → Q (.int ns.sum t') { s with heap := h', toks := tk }) : wpAny (model prog w) A (call (.builtin "sum") [.ref l]) Q E s := by
  obtain ⟨xs, e⟩ := hi.allInts.items
  have hn : numsOf (intItems xs).toList = ns := by rw [← e]; exact hi.numsOf
  rw [nums_intItems] at hn
  rw [e] at hl
  refine PySem.W.ktm_sumG hh hl fun h' tk t' hk => ?_
  have := h h' tk t' hk
  rw [preSum_eq, List.take_of_length_le (by simp), hn]; exact this
theorem max_rawT {Q : Value → Shared → Prop} (hh : A.handled = none) (hl : s.heap.IsTuple l its.toArray) (hi : IntsAre its ns) (hne : 0 < ns.length)
    (h : ∀ h' tk M t', (∀ b o, s.heap.get? b = some o → h'.get? b = some o) → M ∈ ns → (∀ a, a ∈ ns → a ≤ M) → Q (.int M t') { s with heap := h', toks := tk }) : wpAny (model prog w) A (call (.builtin "max") [.ref l]) Q E s := by
  obtain ⟨xs, e⟩ := hi.allInts.items
  have hn : numsOf (intItems xs).toList = ns := by rw [← e]; exact hi.numsOf
  rw [nums_intItems] at hn
  subst hn
  rw [e] at hl
  have hsz : 0 < xs.size := by simpa using hne
  refine max_tupG hh hl hsz fun v h' tk hv hk => ?_
  obtain ⟨t, rfl⟩ := intItems_at hv
  obtain ⟨h1, h2⟩ := argBest_gt (numAt xs) (xs.size - 1)
  refine h h' tk _ t hk ?_ fun a ha => ?_
  · rw [numAt_eq]; exact PySem.getD_mem (by rw [List.length_map, Array.length_toList]; omega)
  · obtain ⟨j, hj, rfl⟩ := mem_getD ha
    rw [List.length_map, Array.length_toList] at hj
    rw [← numAt_eq]; exact h2 j (by omega)
theorem min_rawT {Q : Value → Shared → Prop} (hh : A.handled = none) (hl : s.heap.IsTuple l its.toArray) (hi : IntsAre its ns) (hne : 0 < ns.length)
    (h : ∀ h' tk M t', (∀ b o, s.heap.get? b = some o → h'.get? b = some o) → M ∈ ns → (∀ a, a ∈ ns → M ≤ a) → Q (.int M t') { s with heap := h', toks := tk }) : wpAny (model prog w) A (call (.builtin "min") [.ref l]) Q E s := by
  obtain ⟨xs, e⟩ := hi.allInts.items
  have hn : numsOf (intItems xs).toList = ns := by rw [← e]; exact hi.numsOf
  rw [nums_intItems] at hn
  subst hn
  rw [e] at hl
  have hsz : 0 < xs.size := by simpa using hne
  refine min_tupG hh hl hsz fun v h' tk hv hk => ?_
  obtain ⟨t, rfl⟩ := intItems_at hv
  obtain ⟨h1, h2⟩ := argBest_lt (numAt xs) (xs.size - 1)
  refine h h' tk _ t hk ?_ fun a ha => ?_
  · rw [numAt_eq]; exact PySem.getD_mem (by rw [List.length_map, Array.length_toList]; omega)
  · obtain ⟨j, hj, rfl⟩ := mem_getD ha
    rw [List.length_map, Array.length_toList] at hj
    rw [← numAt_eq]; exact h2 j (by omega)
end
section
variable {X : Cx}
def rSumT (K : PySem.W.Frag) : List V → Hp → VK → Prop := fun vs H Q => ∃ (a : Addr) (ns : List Int), vs = [V.ref a] ∧ SqT K H a (ns.map V.int) ∧ Q (.int ns.sum) H
def rMaxT (K : PySem.W.Frag) : List V → Hp → VK → Prop := fun vs H Q => ∃ (a : Addr) (ns : List Int), vs = [V.ref a] ∧ SqT K H a (ns.map V.int) ∧ 0 < ns.length ∧ ∀ m, m ∈ ns → (∀ y, y ∈ ns → y ≤ m) → Q (.int m) H
def rMinT (K : PySem.W.Frag) : List V → Hp → VK → Prop := fun vs H Q => ∃ (a : Addr) (ns : List Int), vs = [V.ref a] ∧ SqT K H a (ns.map V.int) ∧ 0 < ns.length ∧ ∀ m, m ∈ ns → (∀ y, y ∈ ns → m ≤ y) → Q (.int m) H
theorem cr_sumT (hc : X.calm = true) : CallR X (.builtin "sum") (rSumT X.K) := by
  intro pins s σ H vs us Q I r h
  obtain ⟨a, ns, rfl, hs, q⟩ := h
  obtain ⟨its, rv, hl, _⟩ := I.tuple hs
  rw [Vals.ref1 r]
  exact sum_rawT (I.ok.hd hc) hl rv.ints fun h' tk t' hk => ⟨.int _, H, I.kept hk, ⟨_, rfl⟩, q⟩
theorem cr_maxT (hc : X.calm = true) : CallR X (.builtin "max") (rMaxT X.K) := by
  intro pins s σ H vs us Q I r h
  obtain ⟨a, ns, rfl, hs, hne, q⟩ := h
  obtain ⟨its, rv, hl, _⟩ := I.tuple hs
  rw [Vals.ref1 r]
  exact max_rawT (I.ok.hd hc) hl rv.ints hne fun h' tk m t' hk h1 h2 => ⟨.int _, H, I.kept hk, ⟨_, rfl⟩, q m h1 h2⟩
theorem cr_minT (hc : X.calm = true) : CallR X (.builtin "min") (rMinT X.K) := by
  intro pins s σ H vs us Q I r h
  obtain ⟨a, ns, rfl, hs, hne, q⟩ := h
  obtain ⟨its, rv, hl, _⟩ := I.tuple hs
  rw [Vals.ref1 r]
  exact min_rawT (I.ok.hd hc) hl rv.ints hne fun h' tk m t' hk h1 h2 => ⟨.int _, H, I.kept hk, ⟨_, rfl⟩, q m h1 h2⟩
/-! tuple * 1, () * n -/
theorem tuple_mul1 (l : Addr) (items : Array Value) (n : Nat) (dd : Option Addr) (sl : Array (Option Value)) (x : Int) (u : Tok) (c0 : (decide (x < -(2 ^ 63)) || decide (x ≥ 2 ^ 63)) = false) (c1 : (items.isEmpty || x == 1) = true) :
    Meets (Builtin.«tuple.__mul__» ⟨[.ref l, .int x u], []⟩) (fun _ R s => s.heap.get? l = some { cls := .type "tuple", dict := dd, data := .seq items n, slots := sl } ∧ R (.ok (.ret (.ref l))) s) :=
  .of_wp fun prog w A R s h => by
    obtain ⟨hp, g, d, tk, os⟩ := s
    obtain ⟨hl, h⟩ := h
    have f1 := AutoSeq1.idx_int
    wp_walk using AutoSeq1.wpAny_loadPart' hl
    repeat (first
      | (refine wpAny_ite_false (decide_eq_false (by rw [c0]; exact Bool.false_ne_true)) ?_; wp_walk using AutoSeq1.wpAny_loadPart' hl)
      | (refine wpAny_ite_true (decide_eq_true c1) ?_; wp_walk using AutoSeq1.wpAny_loadPart' hl))
    exact ⟨_, rfl, h⟩
def rRep1 (K : PySem.W.Frag) : R2 := fun x y H Q => ∃ l k xs, x = .ref l ∧ y = .int k ∧ SqT K H l xs ∧ (xs = [] ∨ k = 1) ∧ -1000000 ≤ k ∧ k ≤ 1000000 ∧ Q (.ref l) H
theorem op_rep1 : OpR X (binaryOp .Mult) (rRep1 X.K) := by
  intro pins s σ H x y v u Q I rx ry h
  obtain ⟨l, k, xs, rfl, rfl, hT, he, h1, h2, q⟩ := h
  cases rx
  obtain ⟨t, rfl⟩ := ry
  obtain ⟨its, r, ⟨⟨cls, dd, data, sl⟩, ho, hc, n, hd⟩, hs⟩ := I.tuple hT
  simp only at hc hd
  subst hc hd
  have hle : its.length = xs.length := r.length.symm
  have c0 : (decide (k < -(2 ^ 63)) || decide (k ≥ 2 ^ 63)) = false := by
    rw [decide_eq_false (by omega), decide_eq_false (by omega)] <;> rfl
  have c1 : (its.toArray.isEmpty || k == 1) = true := by
    rcases he with he | he
    · have : its = [] := List.eq_nil_of_length_eq_zero (by rw [hle, he]; rfl)
      subst this; rfl
    · subst he; simp
  exact wpAny_binaryOp_repeat_ref (T := "tuple") (U := "int") (by decide) ⟨_, ho, rfl⟩ (fun s' => typeIs_int s' k t) noFill_tuple_mul F.fills_int_mul F.slot_int_rmul repeat_tuple F.slot_int_index.lookup
    (call_meets F.slot_int_rmul (typeIs_int s k t) F.entry_int_rmul (F.args_int_rmul_2 _ _) (int_rmul_tuple k t l its.toArray n dd sl)
      ⟨ho, rfl, ⟨_, ho, rfl⟩, call_meets F.slot_tuple_mul ⟨_, ho, rfl⟩ F.entry_tuple_mul (F.args_tuple_mul_2 _ _) (tuple_mul1 l its.toArray n dd sl k t c0 c1) ⟨ho, ⟨.ref l, H, I, rfl, q⟩⟩⟩)
end
/-! enumerate over a tuple -/
section
variable {prog : Program} {w : World} {A : Around} {E : Value → Shared → Prop} {s : Shared}
theorem nextOf_tup_item {it t : Addr} {i : Nat} {items} {x : Value} {Q : Value → Shared → Prop} (hit : s.heap.IsTupleIter it t i)
    (hl : s.heap.IsTuple t items) (hx : items[i]? = some x)
    (hQ : ∀ h', h'.IsTupleIter it t (i + 1) → Heap.SameBut it s.heap h' → Q x { s with heap := h' }) :
    wpAny (model prog w) A (Builtin.SmallTypes.nextOf (.ref it)) Q E s := by
  obtain ⟨o, ho, hc, hd⟩ := id hit
  obtain ⟨ol, hol, _, nl, hdl⟩ := hl
  unfold Builtin.SmallTypes.nextOf
  refine wpAny_bind (wpAny_callSpecial?_slot (name := Str.ofString "__next__") hit.typeIs F.slot_tuple_iterator_next
    (wpAny_call_entry F.slot_tuple_iterator_next hit.typeIs F.entry_tuple_iterator_next ?_ (F.args_tuple_iterator_next_1 _)))
  show wpAny _ _ (field (.ref it) 0 >>= _) _ _ s
  refine wpAny_bind (wpAny_field ho hd (x := .ref t) rfl ?_)
  show wpAny _ _ (if (Value.ref t == Value.none) = true then _ else _) _ _ s
  rw [if_neg (show ¬ ((Value.ref t == Value.none) = true) from Bool.false_ne_true)]
  show wpAny _ _ (field (.ref it) 1 >>= _) _ _ s
  refine wpAny_bind (wpAny_field ho hd (x := .int i 0) rfl ?_)
  show wpAny _ _ (seqItems? (.ref t) >>= _) _ _ s
  refine wpAny_bind (wpAny_seqItems hol hdl ?_)
  simp only [Int.toNat_natCast, hx]
  refine wpAny_bind (wpAny_setField ho hd (by simp) (wpAny_pure ⟨x, rfl, wpAny_pure (hQ _ ?_ (Heap.SameBut.update ..))⟩))
  exact ⟨_, Heap.get?_update_self _ ho (Obj.isFreed_of_fields (Obj.data_mapFields hd _)), (Obj.cls_mapFields ..).trans hc, by
    rw [Obj.data_mapFields hd]; simp [rawInt]⟩
theorem nextOf_tup_end {it t : Addr} {i : Nat} {items} {Q : Value → Shared → Prop} (hh : A.handled = none)
    (hit : s.heap.IsTupleIter it t i) (hl : s.heap.IsTuple t items) (hx : items[i]? = none)
    (hE : ∀ h' e, Heap.ExtBut it s.heap h' → (∃ o, h'.get? e = some o ∧ o.cls = .type "StopIteration") → E (.ref e) { s with heap := h' }) :
    wpAny (model prog w) A (Builtin.SmallTypes.nextOf (.ref it)) Q E s := by
  obtain ⟨o, ho, hc, hd⟩ := id hit
  obtain ⟨ol, hol, _, nl, hdl⟩ := hl
  unfold Builtin.SmallTypes.nextOf
  refine wpAny_bind (wpAny_callSpecial?_slot (name := Str.ofString "__next__") hit.typeIs F.slot_tuple_iterator_next
    (wpAny_call_entry F.slot_tuple_iterator_next hit.typeIs F.entry_tuple_iterator_next ?_ (F.args_tuple_iterator_next_1 _)))
  show wpAny _ _ (field (.ref it) 0 >>= _) _ _ s
  refine wpAny_bind (wpAny_field ho hd (x := .ref t) rfl ?_)
  show wpAny _ _ (if (Value.ref t == Value.none) = true then _ else _) _ _ s
  rw [if_neg (show ¬ ((Value.ref t == Value.none) = true) from Bool.false_ne_true)]
  show wpAny _ _ (field (.ref it) 1 >>= _) _ _ s
  refine wpAny_bind (wpAny_field ho hd (x := .int i 0) rfl ?_)
  show wpAny _ _ (seqItems? (.ref t) >>= _) _ _ s
  refine wpAny_bind (wpAny_seqItems hol hdl ?_)
  simp only [Int.toNat_natCast, hx]
  refine wpAny_bind (wpAny_rule (wpAny_bind (wpAny_setField ho hd (by simp) ?_)))
  show wpAny _ _ (newExc (.type "StopIteration") [] >>= _) _ _ _
  refine wpAny_bind ?_
  simp only [newExc, newTuple]
  refine wpAny_bind (wpAny_newObj_type ?_ (by size_fits))
  refine wpAny_bind (m := firstArgMember _ _) (wpAny_of_eq (a := Value.none) (by first | rfl | (simp only [firstArgMember]; rfl)) ?_)
  refine wpAny_newObj_type ?_ (by size_fits)
  simp only [raiseNew]
  refine wpAny_bind (wpAny_handled ?_)
  first | rw [show A.in1.handled = none from hh] | rw [hh]
  refine wpAny_bind (wpAny_pure (wpAny_throw ?_))
  exact hE _ _ (((Heap.SameBut.update ..).extBut.push _).push _) ⟨_, Heap.get?_push_size _ rfl, rfl⟩
theorem drawsT {prog : Program} {w : World} {A : Around} (hh : A.handled = none) (it l : Addr) (hne : l ≠ it) (items : Array Value) :
    Draws prog w A it [it, l] items.size (fun i v => items[i]? = some v) (fun i h => h.IsTupleIter it l i ∧ h.IsTuple l items) where
  live := fun _ _ st => let ⟨o, ho, _⟩ := st.1; ⟨o, ho⟩
  frame := fun _ _ _ st hk => ⟨st.1.at fun o e => hk it (by simp) o e, st.2.at fun o e => hk l (by simp) o e⟩
  item := fun i s Q E hi st hQ => by
    refine nextOf_tup_item st.1 st.2 (x := items[i]) (by simp [hi]) fun h' hit' hs' => ?_
    exact hQ _ h' s.toks (by simp [hi]) ⟨hit', st.2.extBut hs'.extBut hne⟩ hs'
  done := fun s Q E st hE => nextOf_tup_end hh st.1 st.2 (by simp) hE
theorem enum_newT (l : Addr) (items : Array Value) (n : Nat) (dct : Option Addr) (sl : Array (Option Value)) :
    Meets (Builtin.«enumerate.__new__» ⟨[.type "enumerate", .ref l], []⟩) (fun _ R s => s.heap.get? l = some { cls := .type "tuple", dict := dct, data := .seq items n, slots := sl } ∧
      R (.ok (.ret (.ref (s.heap.push { cls := .type "tuple_iterator", data := .fields #[.ref l, .int 0 0] }).objs.size)))
        { s with heap := (s.heap.push { cls := .type "tuple_iterator", data := .fields #[.ref l, .int 0 0] }).push { cls := .type "enumerate", data := .fields #[.none, .bool false, .ref s.heap.objs.size, rawInt 0, .none, .none] } }) :=
  .of_wp fun prog w A R s h => by
    obtain ⟨hp, g, d, tk, os⟩ := s; obtain ⟨hl, h⟩ := h
    have hsub := sub_enumerate
    have hL : Heap.IsTuple (Shared.heap ⟨hp, g, d, tk, os⟩) l items := ⟨_, hl, rfl, n, rfl⟩
    wp_walk using AutoSeq1.wpAny_loadPart' hl
    refine wpAny_stack_any fun st => wpAny_pure ?_
    split
    · rename_i c _ _ _ _ _
      cases (c == Value.type "enumerate")
      · wp_walk using AutoSeq1.wpAny_loadPart' hl, wpAny_pyIter_tuple hL
        exact ⟨_, rfl, h⟩
      · wp_walk using AutoSeq1.wpAny_loadPart' hl, wpAny_pyIter_tuple hL
        exact ⟨_, rfl, h⟩
    · wp_walk using AutoSeq1.wpAny_loadPart' hl, wpAny_pyIter_tuple hL
      exact ⟨_, rfl, h⟩
theorem call_enumT {l : Addr} {items : Array Value} {Q : Value → Shared → Prop} (hL : s.heap.IsTuple l items)
    (h : ∀ h', IsEnum h' (s.heap.objs.size + 1) s.heap.objs.size 0 .none → h'.IsTupleIter s.heap.objs.size l 0 → h'.objs.size = s.heap.objs.size + 2 →
      (∀ b o, s.heap.get? b = some o → h'.get? b = some o) → Q (.ref (s.heap.objs.size + 1)) { s with heap := h' }) :
    wpAny (model prog w) A (call (.type "enumerate") [.ref l]) Q E s := by
  obtain ⟨⟨c, dct, dt, sl⟩, hl, hc, n, hd⟩ := hL
  replace hc : c = .type "tuple" := hc
  replace hd : dt = .seq items n := hd
  subst hc hd
  refine callType_new F.called_enumerate (by decide) (F.typeCall_enumerate_1 _) (F.newCall_enumerate_1 _) (fun obj => F.args_object_init_2 obj _) F.entry_enumerate_new
    (enum_newT l items n dct sl) ⟨hl, ?_⟩
  have hz : (s.heap.push { cls := .type "tuple_iterator", data := .fields #[.ref l, .int 0 0] }).objs.size = s.heap.objs.size + 1 := Heap.size_push ..
  show _ ∧ _
  rw [hz]
  have he : IsEnum ((s.heap.push { cls := .type "tuple_iterator", data := .fields #[.ref l, .int 0 0] }).push
      { cls := .type "enumerate", data := .fields #[.none, .bool false, .ref s.heap.objs.size, rawInt 0, .none, .none] }) (s.heap.objs.size + 1) s.heap.objs.size 0 .none := by
    have := Heap.get?_push_size (s.heap.push { cls := .type "tuple_iterator", data := .fields #[.ref l, .int 0 0] })
      (o := { cls := .type "enumerate", data := .fields #[.none, .bool false, .ref s.heap.objs.size, rawInt 0, .none, .none] }) rfl
    rw [hz] at this; exact this
  refine ⟨⟨_, he, rfl⟩, h _ he ⟨_, Heap.get?_push_of_some _ (Heap.get?_push_size _ rfl), rfl, rfl⟩ (by rw [Heap.size_push, hz]) fun b o x => Heap.get?_push_of_some _ (Heap.get?_push_of_some _ x)⟩
end
/-- the tuple at a as it stands at each turn, each item in a new pair -/
def IteT (K : PySem.W.Frag) (a : Addr) : It :=
  ⟨fun i H => ∃ (xs : List V) (x : V), SqT K H a xs ∧ xs[i]? = some x, fun i H v H' => ∃ T x, v = .ref T ∧ H T = none ∧ H' = upd H T (.tup [.int (i : Nat), x]) ∧ ∀ xs, SqT K H a xs → xs[i]? = some x, fun i H => ∃ xs : List V, SqT K H a xs ∧ xs.length ≤ i⟩
theorem turn_enumT {P : Program} {w : World} {K : PySem.W.Frag} {elts : List Expr} {kk : Nat} {tpos : Pos} (a e it : Addr) :
    Turn P w K (.Tuple elts kk tpos) (IteT K a) [e, it] e (fun i h => (∃ old, IsEnum h e it ((i : Nat) : Int) old) ∧ h.IsTupleIter it a i ∧ e ≠ it ∧ e ≠ a ∧ a ≠ it) where
  mem := by simp
  obj := fun i h st b hb => by
    obtain ⟨⟨old, he⟩, ⟨o, ho, hc, hd⟩, _⟩ := st
    have e' : b = e ∨ b = it := by simpa using hb
    rcases e' with z | z
    · rw [z]; exact ⟨_, he, fun v q => nomatch q⟩
    · rw [z]; exact ⟨o, ho, fun v q => by rw [hd] at q; cases q⟩
  keep := fun i h h' st k => let ⟨⟨old, he⟩, hi, hne⟩ := st; ⟨⟨old, k e (by simp) _ he⟩, hi.at fun o q => k it (by simp) o q, hne⟩
  item := by
    intro X hP hw hK hc i pins s σ H E I hf st hg
    subst hP hw hK
    obtain ⟨⟨old, he⟩, hit, hne, hea, hai⟩ := st
    obtain ⟨xs, x, hq, hx⟩ := hg
    obtain ⟨its, rv, p, hz⟩ := I.tuple hq
    obtain ⟨u, hu, ru⟩ := rv.get hx
    have hel : e < s.heap.objs.size := Heap.lt_size he
    have hil : it < s.heap.objs.size := by obtain ⟨_, q, _⟩ := hit; exact Heap.lt_size q
    have hul : i < its.toArray.size := by have := (List.getElem?_eq_some_iff.mp hu).1; simpa using this
    refine wpAny_pyNext_enum_itemD (drawsT (A := X.A.in1) (I.ok.hd hc) it a hai its.toArray) he ⟨hit, p⟩ hul hne (by simp [hne, hea]) fun x' h' tk hP ho hst hT hsz hk => ?_
    have ex : x' = u := by
      have h1 : its.toArray[i]? = some x' := hP
      have h2 : its.toArray[i]? = some u := by simpa using hu
      rw [h1] at h2; cases h2; rfl
    subst ex
    have tkle : True := trivial
    refine ⟨_, rfl, wpAny_letOwnedTupleGo_enum (s := { s with heap := h', toks := tk + 1 }) ho fun h'' he' sb => ?_⟩
    have hT2 : h''.get? s.heap.objs.size = some { cls := .type "tuple", data := .seq #[.int i tk, x'] } := (sb.2 _ (Nat.ne_of_gt hel)).trans hT
    have new : ObjOk X.prog X.w (upd H s.heap.objs.size (.tup [.int (i : Nat), x])) h'' s.heap.objs.size (.tup [.int (i : Nat), x]) :=
      ⟨by show 2 ≤ sizeLine; decide, [.int i tk, x'], .cons ⟨_, rfl⟩ (.cons ru .nil), ⟨_, hT2, rfl, _, rfl⟩⟩
    have I1 : Inv X pins σ (upd H s.heap.objs.size (.tup [.int (i : Nat), x])) { s with heap := h'', toks := tk + 1 } :=
      I.turnedNew (ch := [e, it]) (fun b ob hb q => (sb.2 b (fun z => hb (by simp [z]))).trans (hk b ob (fun z => hb (by simp [z])) (fun z => hb (by simp [z])) q)) hf (Nat.le_refl _) new
    refine ⟨.ref s.heap.objs.size, _, I1, rfl, ⟨_, x, rfl, I.hok.fresh (Nat.le_refl _), rfl, fun ys hy => by rw [I.tuple_inj hy hq]; exact hx⟩, ⟨⟨x', ?_⟩, hst.1.at fun o q => (sb.2 it (Ne.symm hne)).trans q, hne, hea, hai⟩, fun b hb => ?_⟩
    · have e1 : ((i + 1 : Nat) : Int) = (i : Int) + 1 := by omega
      rw [e1]; exact he'
    · have hb' : b < s.heap.objs.size := by
        have e' : b = e ∨ b = it := by simpa using hb
        rcases e' with z | z
        · rw [z]; exact hel
        · rw [z]; exact hil
      rw [upd_ne (Nat.ne_of_lt hb')]
      exact (hf b hb).1
  done := by
    intro X hP hw hK hc i pins s σ H E I hf st hg
    subst hP hw hK
    obtain ⟨⟨old, he⟩, hit, hne, hea, hai⟩ := st
    obtain ⟨xs, hq, hx⟩ := hg
    obtain ⟨its, rv, p, hz⟩ := I.tuple hq
    obtain ⟨f0, f1, f2, f3, f4, f5⟩ := hf it (by simp)
    have hl := rv.length
    have hT : s.TypeIs (.ref e) "enumerate" := ⟨_, he, rfl⟩
    unfold pyNext
    refine wpAny_bind (wpAny_attempt (wpAny_callSpecial?_slot (name := Str.ofString "__next__") hT F.slot_enumerate_next
      (wpAny_call_entry F.slot_enumerate_next hT F.entry_enumerate_next ?_ (F.args_enumerate_next_1 _))))
    show wpAny _ _ (field (.ref e) 2 >>= _) _ _ _
    refine wpAny_bind (wpAny_field he rfl (x := .ref it) rfl ?_)
    refine wpAny_bind (nextOf_tup_end (I.ok.hd hc) hit p (by simp; omega) fun h' x he' hx' => ?_)
    obtain ⟨o, ho, hc⟩ := hx'
    refine wpAny_bind (wpAny_isInstance (T := "StopIteration") (b := true) ⟨o, ho, hc⟩ isSubtype_stop ?_)
    exact wpAny_pure ⟨rfl, I.turned (t' := s.toks) (fun b o hb q => he' b o hb q) f0 f1 f3 f4 f5⟩
  self := fun A i s Q E st h => let ⟨⟨_, he⟩, _⟩ := st; wpAny_pyIter_enum he h
/-- enumerate(x), x a list or a tuple -/
def iEnumA (K : PySem.W.Frag) (ta : TA) : TI := fun σ H R => ta σ H fun vs H1 => ∃ a xs, vs = [.ref a] ∧ ((SqL K H1 a xs ∧ R (Ite K a) H1) ∨ (SqT K H1 a xs ∧ R (IteT K a) H1))
theorem pi_enumA {X : Cx} {e : Expr} {ta : TA} {p pos tpos : Pos} {elts : List Expr} {kk : Nat} (hg : Gl X "enumerate") (hm : X.mg "enumerate" = none) (ha : PA X [e] ta) (hs : starEach [e] X.env = [(false, eval e X.env)]) :
    PI X (.Tuple elts kk tpos) (.Call (.Name "enumerate" p) [e] [] pos) (iEnumA X.K ta) := by
  refine ⟨fun pins s σ H R I h => ?_⟩
  refine Call_ (ld_blt I hg hm boot_enumerate (PyProof.Rows.callWith_type1 (thn (ha.run pos pins s σ H _ I h) fun us s1 ⟨vs, H1, I1, r1, q1⟩ => ?_) hs rfl))
  obtain ⟨a, xs, ex, q⟩ := q1
  subst ex
  cases r1 with
  | cons r rr =>
    cases rr
    cases r
    have fp2 : ∀ b ∈ [s1.heap.objs.size + 1, s1.heap.objs.size], FpOk X pins H1 b := fun b hb => by
      have e' : b = s1.heap.objs.size + 1 ∨ b = s1.heap.objs.size := by simpa using hb
      have hle : s1.heap.objs.size ≤ b := by
        rcases e' with z | z
        · rw [z]; exact Nat.le_add_right _ _
        · rw [z]; exact Nat.le_refl _
      exact I1.fpOk hle (I1.hok.fresh hle)
    rcases q with ⟨hq, q⟩ | ⟨hq, q⟩
    · obtain ⟨its, rv, p', hz⟩ := I1.list hq
      refine call_enumerate_list p'.isList fun h' he hit hsz hk => wpAny_pyIter_enum he ?_
      have I2 : Inv X pins σ H1 { s1 with heap := h' } := I1.kept (t' := s1.toks) hk
      exact ⟨s1.heap.objs.size + 1, [s1.heap.objs.size + 1, s1.heap.objs.size], _, _, H1, rfl, I2, turn_enum a (s1.heap.objs.size + 1) s1.heap.objs.size, ⟨⟨.none, he⟩, hit, Nat.succ_ne_self _⟩, fp2, q⟩
    · obtain ⟨its, rv, p', hz⟩ := I1.tuple hq
      have hal : a < s1.heap.objs.size := by obtain ⟨_, z, _⟩ := id p'; exact Heap.lt_size z
      refine call_enumT p' fun h' he hit hsz hk => wpAny_pyIter_enum he ?_
      have I2 : Inv X pins σ H1 { s1 with heap := h' } := I1.kept (t' := s1.toks) hk
      exact ⟨s1.heap.objs.size + 1, [s1.heap.objs.size + 1, s1.heap.objs.size], _, _, H1, rfl, I2, turn_enumT a (s1.heap.objs.size + 1) s1.heap.objs.size, ⟨⟨.none, he⟩, hit, Nat.succ_ne_self _, Nat.ne_of_gt (Nat.lt_succ_of_lt hal), Nat.ne_of_lt hal⟩, fp2, q⟩
end GM

set_option maxRecDepth 100000
set_option maxHeartbeats 2000000
/-! GM: own errors whose __init__ says super().__init__(..) and keeps its fields, at the machine's level -/
namespace GM
namespace EX
open PySem PySem.W PySem.Calls PyProof.Rows PySem.HandSPX
/-! the text of __init__, of one field and of two -/
def iA1 (f : Str) (p1 p2 : Pos) : Arguments := { posonlyargs := [], args := [{ arg := "self", annotation := none, pos := p1 }, { arg := f, annotation := none, pos := p2 }], vararg := none, kwonlyargs := [], kw_defaults := [], kwarg := none, defaults := [] }
def iB1 (f : Str) (q1 q2 q3 q4 q5 q6 r1 r2 r3 r4 q7 : Pos) : List Stmt := [.Expr (.Call (.Attribute (.Call (.Name "super" q1) [] [] q7) "__init__" q2) [.Name f q3] [] q4) q5, .Assign [.Attribute (.Name "self" r1) f r2] (.Name f r3) r4]
def iA2 (f g : Str) (p1 p2 p3 : Pos) : Arguments := { posonlyargs := [], args := [{ arg := "self", annotation := none, pos := p1 }, { arg := f, annotation := none, pos := p2 }, { arg := g, annotation := none, pos := p3 }], vararg := none, kwonlyargs := [], kw_defaults := [], kwarg := none, defaults := [] }
def iB2 (f g : Str) (q1 q2 q3 q4 q5 q6 r1 r2 r3 r4 q7 t1 t2 t3 t4 : Pos) : List Stmt := [.Expr (.Call (.Attribute (.Call (.Name "super" q1) [] [] q7) "__init__" q2) [.Name f q3, .Name g q6] [] q4) q5, .Assign [.Attribute (.Name "self" r1) f r2] (.Name f r3) r4, .Assign [.Attribute (.Name "self" t1) g t2] (.Name g t3) t4]
/-- what the written part says of the error at C, its __init__ at fI -/
structure Txt (prog : Program) (K : Frag) (C fI cc cda : Addr) (fs : List Str) : Prop where
  cls : ∃ nm q N bs bm sn sub ab col dd k0 k1 k2 k3 k5, K.lookup C = some (excClassObj nm q C N bs bm true sn sub ab col dd k0 k1 k2 k3 k5 "ValueError.__new__") ∧ refsVE bm = true
  sa : findIn K (.ref C) "__setattr__" = some (some (.builtin "object.__setattr__"))
  noF : ∀ f ∈ fs, findIn K (.ref C) f = some none
  iC : findIn K (.ref C) "__init__" = some (some (.ref fI))
  tI : typeIn K (.ref fI) = some (.type "function")
  ve : subIn K (.ref C) (.type "ValueError") = some true
  me : mroIn K C (.ref C) = some true
  sup : ks_superIn K C C "__init__" = some (some (.builtin "ValueError.__init__"))
  st : nsIn K cStatics "thirdparty.any" = some none
  cell : ∃ cl cld csl, K.lookup cc = some ⟨cl, cld, .cell (some (.ref C)), csl⟩
  code : ∃ ccl cdd vs ccs file tf, K.lookup cda = some ⟨ccl, cdd, .fields vs, ccs⟩ ∧ vs[2]? = some (.str file tf) ∧ ((prog.main.file : Str) == file) = true
  top : (prog.main.scope.names.lookup ("super" : Str)).isSome = false
/-- the scope of such a text -/
structure ScOk (sc : Scope) (fs : List Str) : Prop where
  kind : sc.kind = .function
  gen : sc.isGenerator = false
  co : sc.isCoroutine = false
  sup : sc.names.lookup ("super" : Str) = some .globalImplicit
  cls : sc.names.lookup ("__class__" : Str) = some .free
  self : sc.names.lookup ("self" : Str) = some .local
  loc : ∀ f ∈ fs, sc.names.lookup f = some .local
  cell : ∀ x ∈ sc.names, x.2 ≠ .cell
abbrev veU (u x : Addr) (h : Heap) : Prop := h.get? u = some (kxs_mw "ValueError.__init__" x)
theorem kept_but {K : Frag} {h h' : Heap} {x : Addr} (X : K.In h) (hx : K.lookup x = none) (k : ∀ b o, b ≠ x → h.get? b = some o → h'.get? b = some o) : K.In h' := fun a o e =>
  k a o (fun z => by rw [z, hx] at e; cases e) (X a o e)
section
variable {prog : Program} {w : World} {A : Around} {E : Value → Shared → Prop} {R : Result → Shared → Prop} {s : Shared} {K : Frag} {mg mb : Str → Option Value} {C fI cc cda : Addr} {fs : List Str}
theorem clsK (T : Txt prog K C fI cc cda fs) : ∃ cd, clsIn K C = some cd ∧ refsVE cd.mro = true ∧ cd.hasDict = true := by
  obtain ⟨nm, q, N, bs, bm, sn, sub, ab, col, dd, k0, k1, k2, k3, k5, hC, hbm⟩ := T.cls
  refine ⟨{ name := nm, bases := bs, mro := .ref C :: bm, ns := N, qualname := q, hasDict := true, slotNames := sn, subclasses := sub, abstract := ab, collection := col, hasDel := false }, ?_, hbm, rfl⟩
  unfold clsIn
  rw [hC]
/-- ValueError.__init__(x, ..) by its bound wrapper -/
theorem ve_call {x t0 u : Addr} {rest : List Value} {Q : Value → Shared → Prop} (T : Txt prog K C fI cc cda fs) (X : K.In s.heap) (hx : s.heap.get? x = some (excObj C t0 none .none)) (hu : veU u x s.heap) (hz : rest.length ≤ sizeLine)
    (h : ∀ h' t1, (∀ b o, b ≠ x → s.heap.get? b = some o → h'.get? b = some o) → h'.get? x = some (excObj C t1 none .none) → Q .none { s with heap := h' }) :
    wpAny (model prog w) A (call (.ref u) rest) Q E s := by
  obtain ⟨nm, q, N, bs, bm, sn, sub, ab, col, dd, k0, k1, k2, k3, k5, hC, hbm⟩ := T.cls
  have hC' := X _ _ hC
  have FB := F.excBase_ValueError
  obtain ⟨hh, g, d, tk, os⟩ := s
  refine wpAny_call (codeAny_of_tree ?_)
  show wpAny _ A.in1 (callAny (.ref u) ⟨rest, []⟩) _ _ _
  simp only [callAny]
  refine wpAny_bind (wpAny_load hu ?_)
  simp only [kxs_mw, show (Value.type "method-wrapper" == Value.type "method" || Value.type "method-wrapper" == Value.type "builtin_function_or_method" || Value.type "method-wrapper" == Value.type "method-wrapper") = true by decide, if_true]
  refine KFB.if_so (by decide) ?_
  refine wpAny_bind (check_bound_init FB.toExcCallFacts hC' hx rfl ?_)
  refine wpAny_bind (wpAny_pure (wpAny_pure ?_))
  refine ⟨plainId_quiet FB.init.plain _, codeAny_builtin FB.initEntry ?_⟩
  exact exc_init_tree (cls := .ref C) (t0 := t0) (dv := none) (c2 := .none) (c3 := .none) (b4 := .bool false) hx hz fun h' k e' t' => h h' _ k e'
/-- super() in such an __init__ -/
theorem sup_node {body : List Stmt} {q : Str} {scope : Scope} {p0 p1 : Pos} {whole : Sem Value} {params : Arguments} {ar : Arg} {x : Addr} {ox : Obj} {oc dV kV doc pm ct : Value} {od an : Option Addr} {osl : Array (Option Value)} {name : Str} {L : Addr} {m : Str → Option Value} {Q : Value → Shared → Prop} (T : Txt prog K C fI cc cda fs) (S : ScOk scope fs)
    (X : K.In s.heap) (G : s.heap.Ns mainGlobals mg) (gS : mg "super" = none) (B : s.heap.Ns builtinsNs mb) (bS : mb "super" = some (.type "super")) (hn : s.heap.Ns L m)
    (hf : K.lookup fI = some ⟨oc, od, .func (fnX name q params body scope [("__class__", cc)] dV kV doc pm an (.ref cda) ct), osl⟩) (hp : (params.posonlyargs ++ params.args).head? = some ar) (har : ar.arg = "self") (hv : m "self" = some (.ref x)) (I : InstAt s.heap x ox C none)
    (h : ∀ so h', (∀ b o, s.heap.get? b = some o → h'.get? b = some o) → h'.get? so = some (ks_superObj C x C) → Q (.ref so) { s with heap := h' }) :
    _root_.PySem.wpAt (model prog w) A (.func body (envX q scope L fI (.ref cda) [("__class__", cc)])) (attributeBase (.Call (.Name "super" p0) [] [] p1) "__init__" (envX q scope L fI (.ref cda) [("__class__", cc)]) whole) Q E s := by
  obtain ⟨hh, g, d, t, os⟩ := s
  obtain ⟨ccl, cdd, vs, ccs, file, tf, hco, hvs, hfile⟩ := T.code
  obtain ⟨cl, cld, csl, hcell⟩ := T.cell
  obtain ⟨cd, hcd, _, _⟩ := clsK T
  obtain ⟨oD, hD1, hD2⟩ : ∃ oD, hh.get? C = some oD ∧ oD.data = .cls cd := by
    unfold clsIn at hcd
    split at hcd
    · rename_i c d cd' sl ho
      cases hcd
      exact ⟨_, X _ _ ho, rfl⟩
    · cases hcd
  refine ks_wpAt_super_base (env := envX q scope L fI (.ref cda) [("__class__", cc)]) S.sup S.cls (by decide) rfl (X _ _ hf) rfl hp rfl (X _ _ hco) rfl hvs hfile T.top ?_
  refine ks_loadName_global S.kind S.sup (loadGlobal_builtin (env := envX q scope L fI (.ref cda) [("__class__", cc)]) G gS B bS ⟨rfl, ?_⟩)
  refine wpAny_loadName_free S.kind S.cls rfl ⟨_, X _ _ hcell, rfl⟩ ?_
  rw [har]
  refine wpAny_loadName_local S.kind S.self hn hv ?_
  refine ks_wpAny_isType_cls hD1 hD2 ⟨rfl, ?_⟩
  exact ks_wpAny_call_super hD1 hD2 I.at_ I.cls (fun c e => by
    have := I.no
    unfold notCls at this
    rw [e] at this
    exact Bool.noConfusion this) (looks_mroIn X T.me) fun h' e k => h _ h' k e
/-- what __init__ leaves of a fresh error at x -/
structure InitEnd (h h' : Heap) (x C dx t1 : Addr) (mA : Str → Option Value) : Prop where
  keep : ∀ b o, b ≠ x → h.get? b = some o → h'.get? b = some o
  obj : h'.get? x = some { cls := .ref C, dict := some dx, data := .fields #[.ref t1, .none, .none, .none, .bool false, .none] }
  dbig : h.objs.size ≤ dx
  dne : dx ≠ x
  ns : h'.Ns1 dx mA
theorem ld_loc {sc : Scope} {L a : Addr} {q x : Str} {cdv : Value} {cl : List (Str × Addr)} {m : Str → Option Value} {pos : Pos} {v : Value} {Q : Value → Shared → Prop} (hk : sc.kind = .function) (hl : sc.names.lookup x = some .local) (hn : s.heap.Ns L m) (hv : m x = some v) (hd : (x == ("__debug__" : Str)) = false) (h : Q v s) :
    wpAny (model prog w) A (eval (.Name x pos) (envX q sc L a cdv cl)) Q E s := wpAny_Name (wpAny_loadName_local hk hl hn hv h) hd
theorem few_call {o : Expr} {name : Str} {apos pos : Pos} {args : List Expr} {env : Env} (hl : (apos.endLine == pos.line) = true) (hf : methodCallForm (args.length + 0) (backTo pos (starEach args env)) [] = true) :
    eval (.Call (.Attribute o name apos) args [] pos) env = (do
      let ov ← attributeBase o name env (eval o env)
      standAt apos.atName
      let (f, first) ← holding [ov] (calleeOf true o env ov name)
      callWith pos f first (backTo pos (starEach args env)) []) := by
  have e : methodCallPos true o env apos pos = pure pos := by
    unfold methodCallPos
    rw [hl]
    rfl
  show (attributeBase o name env (eval o env) >>= fun ov => standAt apos.atName >>= fun _ => methodCall o name apos pos env ov (args.length + 0) (backTo pos (starEach args env)) []) = _
  unfold methodCall
  rw [hf, e]
  simp only [pure_bind]
theorem err_init1 {f : Str} (T : Txt prog K C fI cc cda [f]) {scope : Scope} (S : ScOk scope [f]) {qual : Str} {oc doc pm ct : Value} {od an : Option Addr} {osl : Array (Option Value)} {p1 p2 q1 q2 q3 q4 q5 q6 q7 r1 r2 r3 r4 : Pos} (hl : (q2.endLine == q4.line) = true) (hf : (f == ("self" : Str)) = false) (hfd : (f == ("__debug__" : Str)) = false)
    (ho : K.lookup fI = some ⟨oc, od, .func (fnX "__init__" qual (iA1 f p1 p2) (iB1 f q1 q2 q3 q4 q5 q6 r1 r2 r3 r4 q7) scope [("__class__", cc)] .none .none doc pm an (.ref cda) ct), osl⟩) (hcd : codeIn K (.ref cda) qual = true)
    {x t0 : Addr} {v : Value} (X : K.In s.heap) (hlim : s.heap.NoLimit) (G : s.heap.Ns mainGlobals mg) (gS : mg "super" = none) (B : s.heap.Ns builtinsNs mb) (bS : mb "super" = some (.type "super"))
    (hx : s.heap.get? x = some (excObj C t0 none .none)) (hnx : K.lookup x = none) (hroom : A.depth < recursionLimit)
    (hbind : BindsTo s (fnX "__init__" qual (iA1 f p1 p2) (iB1 f q1 q2 q3 q4 q5 q6 r1 r2 r3 r4 q7) scope [("__class__", cc)] .none .none doc pm an (.ref cda) ct) ⟨[.ref x, v], []⟩ [("self", .ref x), (f, v)])
    (hq : ∀ h' tk dx t1, InitEnd s.heap h' x C dx t1 (fun y => if y = f then some v else none) → R (.ok (.ret .none)) { s with heap := h', toks := tk }) :
    codeAny (model prog w) A (.call (.ref fI) ⟨[.ref x, v], []⟩) R s := by
  have nint : ∀ L, interactive (envX qual scope L fI (.ref cda) [("__class__", cc)]) = false := fun L => by
    unfold interactive
    rw [show (envX qual scope L fI (.ref cda) [("__class__", cc)]).scope.kind = .function from S.kind]
    rfl
  have hloc := S.loc f List.mem_cons_self
  refine ks_codeAny_call_defAt (fd := fnX "__init__" qual (iA1 f p1 p2) (iB1 f q1 q2 q3 q4 q5 q6 r1 r2 r3 r4 q7) scope [("__class__", cc)] .none .none doc pm an (.ref cda) ct) (body := iB1 f q1 q2 q3 q4 q5 q6 r1 r2 r3 r4 q7) (binds := [("self", .ref x), (f, v)]) hroom (X _ _ ho) rfl hlim (codeRec_of X hcd) rfl hbind S.cell (fun y hy => ?_) (fun h₁ hn k => ?_) S.co S.gen S.kind
  · simp only [List.mem_cons, List.not_mem_nil, or_false] at hy
    rcases hy with rfl | rfl
    · exact S.self
    · exact hloc
  have mS : ([("self", Value.ref x), (f, v)] : List (Str × Value)).reverse.lookup ("self" : Str) = some (.ref x) := by
    have : (("self" : Str) == f) = false := by rw [beq_eq_false_iff_ne] at *; exact fun z => hf z.symm
    simp [List.lookup, this]
  have mF : ([("self", Value.ref x), (f, v)] : List (Str × Value)).reverse.lookup f = some v := by simp [List.lookup]
  have hxL : s.heap.objs.size ≠ x := Nat.ne_of_gt (Heap.lt_size hx)
  refine ks_wpAt_execs_cons ?_
  refine ks_wpAt_Expr_any ?_ (nint _)
  refine ks_wpAt_MethodCall ?_ (few_call hl rfl)
  refine sup_node (s := { s with heap := h₁, toks := _ }) (ar := { arg := "self", annotation := none, pos := p1 }) T S (X.keeps k) (G.keeps k) gS (B.keeps k) bS hn ho rfl rfl mS ⟨k _ _ hx, rfl, rfl, trivial⟩ fun so h₂ k₂ hso => ?_
  have hx₂ := k₂ _ _ (k _ _ hx)
  have X₂ : K.In h₂ := (X.keeps k).keeps k₂
  obtain ⟨cd, hcd1, hcd2, hcd3⟩ := clsK T
  have kC : clsIn K C = some cd := hcd1
  have hI : Looks (model prog w) h₂ (isInstance (.ref x) (.type "ValueError")) true := (InstAt.type (⟨hx₂, rfl, rfl, trivial⟩ : InstAt h₂ x (excObj C t0 none .none) C none)).andThen (looks_subIn X₂ T.ve)
  have hxC : x ≠ C := fun z => by
    obtain ⟨nm, q, N, bs, bm, sn, sub, ab, col, dd, k0, k1, k2, k3, k5, hC, _⟩ := T.cls
    rw [z, hC] at hnx
    cases hnx
  have hsup : alongIn K "__init__" ((cd.mro.dropWhile (· != .ref C)).drop 1) = some (some (.builtin "ValueError.__init__")) := by
    have := T.sup
    unfold ks_superIn at this
    rw [kC] at this
    exact this
  refine kxs_getMethod kxs_ValueError (l₀ := cd.mro) hso (looks_opaque X₂ T.st) (fun A Q E s k q => wpAny_bind ((looks_clsIn X₂ kC) A _ E s k (wpAny_pure q))) rfl X₂ hsup hI hxC (by decide) ?_
  have hu : veU h₂.objs.size x (h₂.push (kxs_mw "ValueError.__init__" x)) := Heap.get?_push_at rfl rfl
  have kp : ∀ b o, h₂.get? b = some o → (h₂.push (kxs_mw "ValueError.__init__" x)).get? b = some o := fun b o e => Heap.get?_push_of_some _ e
  refine kxs_callWith (i := "ValueError.__init__") (x := x) rfl ?_
  refine evalArgs_plain (spliced_cons (ld_loc S.kind hloc ((hn.keeps k₂).keeps kp) mF hfd (spliced_nil ⟨hu, ?_⟩)))
  refine ve_call T (X₂.keeps kp) (kp _ _ hx₂) hu (by rw [sizeLine_eq]; exact (show 1 ≤ 16777216 by decide)) fun h₃ t1 k₃ hx₃ => ?_
  have k03 : ∀ b o, b ≠ x → s.heap.get? b = some o → h₃.get? b = some o := fun b o hb e => k₃ b o hb (kp _ _ (k₂ _ _ (k _ _ e)))
  have n₃ : h₃.Ns s.heap.objs.size (fun y => ([("self", Value.ref x), (f, v)] : List (Str × Value)).reverse.lookup y) := ((hn.keeps k₂).keeps kp).at fun o e => k₃ _ o hxL e
  have X₃ : K.In h₃ := kept_but X hnx k03
  refine ks_wpAt_execs_cons (wpAt_of_wpAny ?_)
  refine plainObj_wpAny_Assign_Attribute ?_
  refine ld_loc S.kind hloc n₃ mF hfd (ld_loc S.kind S.self n₃ mS (by decide) ?_)
  refine set_plain X₃ (ox := excObj C t1 none .none) (od := none) ⟨hx₃, rfl, rfl, trivial⟩ T.sa ?_
  refine exc_osa X₃ hx₃ kC hcd2 hcd3 (T.noF f List.mem_cons_self) (fun h₄ tk₄ dx k₄ dn dne hx₄ hn₄ => ?_)
  refine wpAt_of_wpAny (wpAny_execs_nil (hq h₄ _ dx t1 ⟨fun b o hb e => k₄ b o hb (k03 b o hb e), hx₄, ?_, dne, hn₄⟩))
  have z : s.heap.objs.size < h₃.objs.size := n₃.lt
  exact Nat.le_of_lt (Nat.lt_of_lt_of_le z dn)
theorem err_init2 {f g : Str} (T : Txt prog K C fI cc cda [f, g]) {scope : Scope} (S : ScOk scope [f, g]) {qual : Str} {oc doc pm ct : Value} {od an : Option Addr} {osl : Array (Option Value)} {p1 p2 p3 q1 q2 q3 q4 q5 q6 q7 r1 r2 r3 r4 t1 t2 t3 t4 : Pos} (hl : (q2.endLine == q4.line) = true) (hf : (f == ("self" : Str)) = false) (hfd : (f == ("__debug__" : Str)) = false) (hg : (g == ("self" : Str)) = false) (hgd : (g == ("__debug__" : Str)) = false) (hgf : (g == f) = false)
    (ho : K.lookup fI = some ⟨oc, od, .func (fnX "__init__" qual (iA2 f g p1 p2 p3) (iB2 f g q1 q2 q3 q4 q5 q6 r1 r2 r3 r4 q7 t1 t2 t3 t4) scope [("__class__", cc)] .none .none doc pm an (.ref cda) ct), osl⟩) (hcd : codeIn K (.ref cda) qual = true)
    {x t0 : Addr} {v u : Value} (X : K.In s.heap) (hlim : s.heap.NoLimit) (G : s.heap.Ns mainGlobals mg) (gS : mg "super" = none) (B : s.heap.Ns builtinsNs mb) (bS : mb "super" = some (.type "super"))
    (hx : s.heap.get? x = some (excObj C t0 none .none)) (hnx : K.lookup x = none) (hroom : A.depth < recursionLimit)
    (hbind : BindsTo s (fnX "__init__" qual (iA2 f g p1 p2 p3) (iB2 f g q1 q2 q3 q4 q5 q6 r1 r2 r3 r4 q7 t1 t2 t3 t4) scope [("__class__", cc)] .none .none doc pm an (.ref cda) ct) ⟨[.ref x, v, u], []⟩ [("self", .ref x), (f, v), (g, u)])
    (hq : ∀ h' tk dx t1, InitEnd s.heap h' x C dx t1 (fun y => if y = g then some u else if y = f then some v else none) → R (.ok (.ret .none)) { s with heap := h', toks := tk }) :
    codeAny (model prog w) A (.call (.ref fI) ⟨[.ref x, v, u], []⟩) R s := by
  have nint : ∀ L, interactive (envX qual scope L fI (.ref cda) [("__class__", cc)]) = false := fun L => by
    unfold interactive
    rw [show (envX qual scope L fI (.ref cda) [("__class__", cc)]).scope.kind = .function from S.kind]
    rfl
  have hloc := S.loc f List.mem_cons_self
  have hlog := S.loc g (List.mem_cons_of_mem _ List.mem_cons_self)
  refine ks_codeAny_call_defAt (fd := fnX "__init__" qual (iA2 f g p1 p2 p3) (iB2 f g q1 q2 q3 q4 q5 q6 r1 r2 r3 r4 q7 t1 t2 t3 t4) scope [("__class__", cc)] .none .none doc pm an (.ref cda) ct) (body := iB2 f g q1 q2 q3 q4 q5 q6 r1 r2 r3 r4 q7 t1 t2 t3 t4) (binds := [("self", .ref x), (f, v), (g, u)]) hroom (X _ _ ho) rfl hlim (codeRec_of X hcd) rfl hbind S.cell (fun y hy => ?_) (fun h₁ hn k => ?_) S.co S.gen S.kind
  · simp only [List.mem_cons, List.not_mem_nil, or_false] at hy
    rcases hy with rfl | rfl | rfl
    · exact S.self
    · exact hloc
    · exact hlog
  have mS : ([("self", Value.ref x), (f, v), (g, u)] : List (Str × Value)).reverse.lookup ("self" : Str) = some (.ref x) := by
    have e1 : (("self" : Str) == f) = false := by rw [beq_eq_false_iff_ne] at *; exact fun z => hf z.symm
    have e2 : (("self" : Str) == g) = false := by rw [beq_eq_false_iff_ne] at *; exact fun z => hg z.symm
    simp [List.lookup, e1, e2]
  have mF : ([("self", Value.ref x), (f, v), (g, u)] : List (Str × Value)).reverse.lookup f = some v := by
    have e1 : (f == g) = false := by rw [beq_eq_false_iff_ne] at *; exact fun z => hgf z.symm
    simp [List.lookup, e1]
  have mG : ([("self", Value.ref x), (f, v), (g, u)] : List (Str × Value)).reverse.lookup g = some u := by simp [List.lookup]
  have hxL : s.heap.objs.size ≠ x := Nat.ne_of_gt (Heap.lt_size hx)
  refine ks_wpAt_execs_cons ?_
  refine ks_wpAt_Expr_any ?_ (nint _)
  refine ks_wpAt_MethodCall ?_ (few_call hl rfl)
  refine sup_node (s := { s with heap := h₁, toks := _ }) (ar := { arg := "self", annotation := none, pos := p1 }) T S (X.keeps k) (G.keeps k) gS (B.keeps k) bS hn ho rfl rfl mS ⟨k _ _ hx, rfl, rfl, trivial⟩ fun so h₂ k₂ hso => ?_
  have hx₂ := k₂ _ _ (k _ _ hx)
  have X₂ : K.In h₂ := (X.keeps k).keeps k₂
  obtain ⟨cd, hcd1, hcd2, hcd3⟩ := clsK T
  have kC : clsIn K C = some cd := hcd1
  have hI : Looks (model prog w) h₂ (isInstance (.ref x) (.type "ValueError")) true := (InstAt.type (⟨hx₂, rfl, rfl, trivial⟩ : InstAt h₂ x (excObj C t0 none .none) C none)).andThen (looks_subIn X₂ T.ve)
  have hxC : x ≠ C := fun z => by
    obtain ⟨nm, q, N, bs, bm, sn, sub, ab, col, dd, k0, k1, k2, k3, k5, hC, _⟩ := T.cls
    rw [z, hC] at hnx
    cases hnx
  have hsup : alongIn K "__init__" ((cd.mro.dropWhile (· != .ref C)).drop 1) = some (some (.builtin "ValueError.__init__")) := by
    have := T.sup
    unfold ks_superIn at this
    rw [kC] at this
    exact this
  refine kxs_getMethod kxs_ValueError (l₀ := cd.mro) hso (looks_opaque X₂ T.st) (fun A Q E s k q => wpAny_bind ((looks_clsIn X₂ kC) A _ E s k (wpAny_pure q))) rfl X₂ hsup hI hxC (by decide) ?_
  have hu : veU h₂.objs.size x (h₂.push (kxs_mw "ValueError.__init__" x)) := Heap.get?_push_at rfl rfl
  have kp : ∀ b o, h₂.get? b = some o → (h₂.push (kxs_mw "ValueError.__init__" x)).get? b = some o := fun b o e => Heap.get?_push_of_some _ e
  refine kxs_callWith (i := "ValueError.__init__") (x := x) rfl ?_
  refine evalArgs_plain (spliced_cons (ld_loc S.kind hloc ((hn.keeps k₂).keeps kp) mF hfd (spliced_cons (ld_loc S.kind hlog ((hn.keeps k₂).keeps kp) mG hgd (spliced_nil ⟨hu, ?_⟩)))))
  refine ve_call T (X₂.keeps kp) (kp _ _ hx₂) hu (by rw [sizeLine_eq]; exact (show 2 ≤ 16777216 by decide)) fun h₃ t1_ k₃ hx₃ => ?_
  have k03 : ∀ b o, b ≠ x → s.heap.get? b = some o → h₃.get? b = some o := fun b o hb e => k₃ b o hb (kp _ _ (k₂ _ _ (k _ _ e)))
  have n₃ : h₃.Ns s.heap.objs.size (fun y => ([("self", Value.ref x), (f, v), (g, u)] : List (Str × Value)).reverse.lookup y) := ((hn.keeps k₂).keeps kp).at fun o e => k₃ _ o hxL e
  have X₃ : K.In h₃ := kept_but X hnx k03
  refine ks_wpAt_execs_cons (wpAt_of_wpAny ?_)
  refine plainObj_wpAny_Assign_Attribute ?_
  refine ld_loc S.kind hloc n₃ mF hfd (ld_loc S.kind S.self n₃ mS (by decide) ?_)
  refine set_plain X₃ (ox := excObj C t1_ none .none) (od := none) ⟨hx₃, rfl, rfl, trivial⟩ T.sa ?_
  refine exc_osa X₃ hx₃ kC hcd2 hcd3 (T.noF f List.mem_cons_self) (fun h₄ tk₄ dx k₄ dn dne hx₄ hn₄ => ?_)
  have k04 : ∀ b o, b ≠ x → s.heap.get? b = some o → h₄.get? b = some o := fun b o hb e => k₄ b o hb (k03 b o hb e)
  have n₄ : h₄.Ns s.heap.objs.size (fun y => ([("self", Value.ref x), (f, v), (g, u)] : List (Str × Value)).reverse.lookup y) := n₃.at fun o e => k₄ _ o hxL e
  have X₄ : K.In h₄ := kept_but X hnx k04
  have wi : Within (fun y => if y = f then some v else none) [f] := fun y hy => by
    by_cases e : y = f
    · rw [e]; exact List.mem_cons_self
    · exact absurd (if_neg e) hy
  obtain ⟨oD, _, _, hoD, _, _⟩ := hn₄.count wi
  have z : s.heap.objs.size < h₃.objs.size := n₃.lt
  refine wpAt_of_wpAny ?_
  refine wpAny_execs_cons ?_
  refine plainObj_wpAny_Assign_Attribute ?_
  refine ld_loc S.kind hlog n₄ mG hgd (ld_loc S.kind S.self n₄ mS (by decide) ?_)
  refine set_plain X₄ (ox := { cls := .ref C, dict := some dx, data := .fields #[.ref t1_, .none, .none, .none, .bool false, .none] }) (od := some oD) ⟨hx₄, rfl, rfl, hoD⟩ T.sa ?_
  refine PySem.OEX.osa_old X₄ hx₄ hn₄ wi (by simp) kC hcd2 hcd3 (T.noF g (List.mem_cons_of_mem _ List.mem_cons_self)) fun h₅ tk₅ k₅ hn₅ => ?_
  have dL : dx ≠ s.heap.objs.size := Nat.ne_of_gt (Nat.lt_of_lt_of_le z dn)
  refine wpAny_execs_nil (hq h₅ _ dx t1_ ⟨fun b o hb e => k₅ b o (fun y => by
    have := Heap.lt_size e
    rw [y] at this
    exact absurd (Nat.lt_of_lt_of_le z dn) (Nat.not_lt.mpr (Nat.le_of_lt this))) (k04 b o hb e), k₅ _ _ (Ne.symm dne) hx₄, Nat.le_of_lt (Nat.lt_of_lt_of_le z dn), dne, hn₅⟩)
end
end EX
end GM

set_option maxRecDepth 100000
set_option maxHeartbeats 2000000
/-! GM: own errors made by a call -/
namespace GM
namespace EX
open PySem PySem.W PySem.Calls PyProof.Rows PySem.HandSPX
/-- a made error -/
structure OwnMade (h h' : Heap) (e C d : Addr) (fs : List Str) (us : List Value) : Prop where
  keep : ∀ b o, h.get? b = some o → h'.get? b = some o
  new : h.objs.size ≤ e
  obj : ∃ oe vs, h'.get? e = some oe ∧ oe.cls = .ref C ∧ oe.dict = some d ∧ oe.data = .fields vs ∧ vs[1]? = some .none
  dbig : h.objs.size ≤ d
  dne : d ≠ e
  ns : ∃ mA, h'.Ns1 d mA ∧ ∀ y, mA y = (fs.zip us).lookup y
/-- the class at C makes such errors -/
def Makes (prog : Program) (w : World) (K : Frag) (mg : Str → Option Value) (C : Addr) (fs : List Str) : Prop :=
  ∀ (A : Around) (R : Result → Shared → Prop) (s : Shared) (mb : Str → Option Value) (us : List Value), us.length = fs.length → K.In s.heap → s.heap.NoLimit → s.heap.Ns mainGlobals mg → s.heap.Ns builtinsNs mb → mb "super" = some (.type "super") → A.depth + 1 < recursionLimit →
    (∀ h' tk e d, OwnMade s.heap h' e C d fs us → R (.ok (.ret (.ref e))) { s with heap := h', toks := tk }) → codeAny (model prog w) A (.call (.ref C) ⟨us, []⟩) R s
section
variable {prog : Program} {w : World} {K : Frag} {mg : Str → Option Value} {C fI cc cda : Addr} {fs : List Str}
theorem made_by (T : Txt prog K C fI cc cda fs) (hfs : fs.length ≤ 1000)
    (init : ∀ (A : Around) (R : Result → Shared → Prop) (s : Shared) (mb : Str → Option Value) (us : List Value) (x t0 : Addr), us.length = fs.length → K.In s.heap → s.heap.NoLimit → s.heap.Ns mainGlobals mg → s.heap.Ns builtinsNs mb → mb "super" = some (.type "super") →
      s.heap.get? x = some (excObj C t0 none .none) → K.lookup x = none → A.depth < recursionLimit → (∀ h' tk dx t1 mA, InitEnd s.heap h' x C dx t1 mA → (∀ y, mA y = (fs.zip us).lookup y) → R (.ok (.ret .none)) { s with heap := h', toks := tk }) →
      codeAny (model prog w) A (.call (.ref fI) ⟨.ref x :: us, []⟩) R s) : Makes prog w K mg C fs := by
  intro A R s mb us hlen X hlim G B bS hroom hq
  obtain ⟨nm, q, N, bs, bm, sn, sub, ab, col, dd, k0, k1, k2, k3, k5, hC, hbm⟩ := T.cls
  obtain ⟨hp, g, dr, tk, os⟩ := s
  have k : ∀ b o, hp.get? b = some o → ((hp.push (kdv_tup us)).push (excO C hp.objs.size)).get? b = some o := fun b o e => Heap.get?_push_of_some _ (Heap.get?_push_of_some _ e)
  have hget : ((hp.push (kdv_tup us)).push (excO C hp.objs.size)).get? (hp.objs.size + 1) = some (excO C hp.objs.size) := by heap_get
  have hnx : K.lookup (hp.objs.size + 1) = none := by
    cases e : K.lookup (hp.objs.size + 1) with
    | none => rfl
    | some o =>
      have z : hp.get? (hp.objs.size + 1) = some o := X _ _ e
      exact absurd (Nat.lt_of_succ_lt (Heap.lt_size z)) (Nat.lt_irrefl _)
  obtain ⟨oI, hoI, hcI⟩ : ∃ oI, hp.get? fI = some oI ∧ oI.cls = .type "function" := by
    have h2 : (K.lookup fI).map (·.cls) = some (.type "function") := T.tI
    obtain ⟨o, ho, hc⟩ := Option.map_eq_some_iff.mp h2
    exact ⟨o, X _ _ ho, hc⟩
  refine call_own F.excBase_ValueError (fun X => refsVE_contains X bm hbm) (X _ _ hC) (looks_findIn X T.iC) (fun self => exc_bind hoI hcI self) (by rw [sizeLine_eq, hlen]; exact Nat.le_trans hfs (by decide)) ?_
  refine init _ _ ⟨(hp.push (kdv_tup us)).push (excO C hp.objs.size), g, dr, tk, os⟩ mb us (hp.objs.size + 1) hp.objs.size hlen (X.keeps k) (hlim.keeps k) (G.keeps k) (B.keeps k) bS hget hnx ?_ fun h' tk' dx t1 mA ⟨k', hx, dn, dne, hns⟩ hmA => ?_
  · show A.depth + 1 < recursionLimit
    exact hroom
  · have old : ∀ b o, hp.get? b = some o → h'.get? b = some o := fun b o e => k' b o (Nat.ne_of_lt (Nat.lt_succ_of_lt (Heap.lt_size e))) (k b o e)
    have z : hp.objs.size + 1 + 1 ≤ dx := by
      first
        | (simpa only [Heap.size_push] using dn)
        | exact dn
        | (have q := dn; rw [Heap.size_push, Heap.size_push] at q; exact q)
    exact ⟨rfl, hq h' tk' (hp.objs.size + 1) dx ⟨old, Nat.le_succ _, ⟨_, _, hx, rfl, rfl, rfl, rfl⟩, Nat.le_trans (Nat.le_trans (Nat.le_succ _) (Nat.le_succ _)) z, dne, mA, hns, hmA⟩⟩
theorem makes1 {f : Str} (T : Txt prog K C fI cc cda [f]) {scope : Scope} (S : ScOk scope [f]) {qual : Str} {oc doc pm ct : Value} {od an : Option Addr} {osl : Array (Option Value)} {p1 p2 q1 q2 q3 q4 q5 q6 q7 r1 r2 r3 r4 : Pos} (hl : (q2.endLine == q4.line) = true) (hf : (f == ("self" : Str)) = false) (hfd : (f == ("__debug__" : Str)) = false)
    (ho : K.lookup fI = some ⟨oc, od, .func (fnX "__init__" qual (iA1 f p1 p2) (iB1 f q1 q2 q3 q4 q5 q6 r1 r2 r3 r4 q7) scope [("__class__", cc)] .none .none doc pm an (.ref cda) ct), osl⟩) (hcd : codeIn K (.ref cda) qual = true) (gS : mg "super" = none)
    (hbind : ∀ (s : Shared) (x v : Value), BindsTo s (fnX "__init__" qual (iA1 f p1 p2) (iB1 f q1 q2 q3 q4 q5 q6 r1 r2 r3 r4 q7) scope [("__class__", cc)] .none .none doc pm an (.ref cda) ct) ⟨[x, v], []⟩ [("self", x), (f, v)]) : Makes prog w K mg C [f] :=
  made_by T (by simp) fun A R s mb us x t0 hlen X hlim G B bS hx hnx hroom hq => by
    match us, hlen with
    | [v], _ =>
      exact err_init1 T S hl hf hfd ho hcd X hlim G gS B bS hx hnx hroom (hbind _ _ _) fun h' tk dx t1 ie => hq h' tk dx t1 _ ie fun y => by
        show (if y = f then some v else none) = List.lookup y [(f, v)]
        by_cases e : y = f
        · subst e; rw [if_pos rfl, List.lookup_cons_self]
        · have e1 : (y == f) = false := by simpa using e
          rw [if_neg e, List.lookup_cons, e1]
          rfl
theorem makes2 {f g : Str} (T : Txt prog K C fI cc cda [f, g]) {scope : Scope} (S : ScOk scope [f, g]) {qual : Str} {oc doc pm ct : Value} {od an : Option Addr} {osl : Array (Option Value)} {p1 p2 p3 q1 q2 q3 q4 q5 q6 q7 r1 r2 r3 r4 t1 t2 t3 t4 : Pos} (hl : (q2.endLine == q4.line) = true) (hf : (f == ("self" : Str)) = false) (hfd : (f == ("__debug__" : Str)) = false)
    (hg : (g == ("self" : Str)) = false) (hgd : (g == ("__debug__" : Str)) = false) (hgf : (g == f) = false)
    (ho : K.lookup fI = some ⟨oc, od, .func (fnX "__init__" qual (iA2 f g p1 p2 p3) (iB2 f g q1 q2 q3 q4 q5 q6 r1 r2 r3 r4 q7 t1 t2 t3 t4) scope [("__class__", cc)] .none .none doc pm an (.ref cda) ct), osl⟩) (hcd : codeIn K (.ref cda) qual = true) (gS : mg "super" = none)
    (hbind : ∀ (s : Shared) (x v u : Value), BindsTo s (fnX "__init__" qual (iA2 f g p1 p2 p3) (iB2 f g q1 q2 q3 q4 q5 q6 r1 r2 r3 r4 q7 t1 t2 t3 t4) scope [("__class__", cc)] .none .none doc pm an (.ref cda) ct) ⟨[x, v, u], []⟩ [("self", x), (f, v), (g, u)]) : Makes prog w K mg C [f, g] :=
  made_by T (by simp) fun A R s mb us x t0 hlen X hlim G B bS hx hnx hroom hq => by
    match us, hlen with
    | [v, u], _ =>
      exact err_init2 T S hl hf hfd hg hgd hgf ho hcd X hlim G gS B bS hx hnx hroom (hbind _ _ _ _) fun h' tk dx t1 ie => hq h' tk dx t1 _ ie fun y => by
        show (if y = g then some u else if y = f then some v else none) = List.lookup y [(f, v), (g, u)]
        have ne : ¬ g = f := by simpa using hgf
        by_cases e : y = f
        · subst e
          have : ¬ y = g := fun z => ne z.symm
          rw [if_neg this, if_pos rfl, List.lookup_cons_self]
        · have e1 : (y == f) = false := by simpa using e
          rw [List.lookup_cons, e1]
          show _ = List.lookup y [(g, u)]
          by_cases e2 : y = g
          · subst e2; rw [if_pos rfl, List.lookup_cons_self]
          · have e3 : (y == g) = false := by simpa using e2
            rw [if_neg e2, if_neg e, List.lookup_cons, e3]
            rfl
end
end EX
end GM
namespace GM
open PySem PySem.Spec PyProof.Rows L2
section
variable {X : Cx} {C : Addr} {fs : List Str}
/-- C(e, ..) -/
def tMkErr (C : Addr) (fs : List Str) (ta : TA) : L2.St → Hp → XK → Prop := fun σ H Q => ta σ H fun vs H1 => vs.length = fs.length ∧ ∀ d, H1 d = none → Q (.ref C) (some d) (upd H1 d (.xd (fs.zip vs)))
theorem relO_zip : ∀ {fs : List Str} {vs : List V} {us : List Value}, Vals vs us → ∀ y, RelO ((fs.zip vs).lookup y) ((fs.zip us).lookup y)
  | [], _, _, _, _ => trivial
  | f :: fs, _, _, .nil, y => by rw [List.zip_nil_right, List.zip_nil_right]; trivial
  | f :: fs, v :: vs, u :: us, .cons r rr, y => by
    rw [List.zip_cons_cons, List.zip_cons_cons]
    simp only [List.lookup]
    cases y == f with
    | true => exact r
    | false => exact relO_zip rr y
theorem pmk_err {x : Str} {e : Expr} {es : List Expr} {ta : TA} {p pos : Pos} {k : Nat} (hr : Room (k + 1) X.A) (mk : EX.Makes X.prog X.w X.K X.mg C fs) (gC : X.mg x = some (.ref C)) (kC : PySem.W.keepIn X.K (.ref C) = true) (rs : Raises X (.ref C)) (ha : PA X (e :: es) ta) (hg : Gl X x) (hdb : (x == ("__debug__" : Str)) = false)
    (he : starEach (e :: es) X.env = (false, eval e X.env) :: starEach es X.env) (hpl : (backTo pos (starEach es X.env)).any (·.1) = false) :
    PMk X (.Call (.Name x p) (e :: es) [] pos) (tMkErr C fs ta) := by
  intro pins s σ H Q I h
  refine wpAny_Call_Name_kw (ld_glob I hg gC ?_ hdb)
  refine PySem.W.callWith_K (h₀ := X.base) I.ok.mod.kin kC (thn (ha.run pos pins s σ H _ I h) fun us s1 hh => ?_) he hpl
  obtain ⟨vs, H1, I1, r1, ev, q1⟩ := hh
  refine ⟨I1.kIn, ?_⟩
  show wpAny _ _ (call (.ref C) us) _ _ _
  have hlim := I1.nolimit
  obtain ⟨mb, hb, hbm⟩ := I1.ok.mod.blt
  have G1 := I1.ok.mod.glob.keeps I1.bk
  have B1 := hb.keeps I1.bk
  obtain ⟨hp, g, dr, tk, os⟩ := s1
  refine wpAny_call (mk _ _ ⟨hp, g, dr, tk, os⟩ mb us (by rw [← r1.length, ev]) I1.kIn hlim G1 B1 (hbm _ (by decide)) (by have := hr.dp; omega) fun h' tk' e d M => ?_)
  show MkP X pins σ Q (.ref e) ⟨h', g, dr, tk', os⟩
  obtain ⟨oe, fv, hoe, hc, hd, hdat, h1⟩ := M.obj
  obtain ⟨mA, hns, hmA⟩ := M.ns
  obtain ⟨G', g1, g2⟩ := restrict h' fun b => decide (b ≠ e)
  have gk : ∀ b, b ≠ e → G'.get? b = h'.get? b := fun b hb => g1 b (decide_eq_true hb)
  have ge : G'.get? e = none := g2 e (by simp)
  have old : ∀ b o, hp.get? b = some o → G'.get? b = some o := fun b o q => (gk b (Nat.ne_of_lt (Nat.lt_of_lt_of_le (Heap.lt_size q) M.new))).trans (M.keep b o q)
  have ob : ObjOk X.prog X.w (upd H1 d (.xd (fs.zip vs))) G' d (.xd (fs.zip vs)) :=
    ⟨mA, hns.at (fun o q => (gk d M.dne).trans q), fun f => by rw [hmA]; exact relO_zip r1 f⟩
  have J : Inv X pins σ (upd H1 d (.xd (fs.zip vs))) ⟨G', g, dr, tk', os⟩ := I1.laid (t' := tk') old M.dbig ob
  refine ⟨e, oe, fv, ⟨G', g, dr, tk', os⟩, _, .ref C, some d, rfl, J, fun b o q => ?_, ge, hoe, ⟨hc, hd⟩, hdat, h1, ?_, rfl, I1.bare, rs, q1 d (I1.hok.fresh M.dbig)⟩
  · by_cases hb : b = e
    · have q' : G'.get? b = some o := q
      rw [hb, ge] at q'; cases q'
    · exact (gk b hb).symm.trans q
  · rw [upd_ne (Ne.symm M.dne)]
    exact I1.hok.fresh M.new
end
end GM

set_option maxRecDepth 100000
set_option maxHeartbeats 2000000
/-! GM: isinstance of a caught own error that has its dict -/
namespace GM
open PySem PySem.Spec PyProof.Rows L2
/-- what is known of an own error's class -/
structure ErrC (K : PySem.W.Frag) (C : Addr) (ns : List Str) : Prop where
  xf : XfC K C
  no : ∀ f ∈ ns, PySem.W.findIn K (.ref C) f = some none
  cl : (PySem.W.clsIn K C).isSome = true
  ca : PySem.W.findIn K (.ref C) "__class__" = some (some (.builtin "object.__class__"))
  sp : PySem.W.specialIn K (.builtin "object.__class__") "__get__" = some (some (.builtin "getset_descriptor.__get__"))
  tk : PySem.W.takesIn K (.builtin "object.__class__") = some true
  mo : PySem.W.mroIn K C (.type "object") = some true
section
variable {X : Cx} {a C dd : Addr} {oe : Obj} {pn : List (Addr × Obj)} {ns : List Str}
theorem held_at {pins : List (Addr × Obj)} {σ : L2.St} {H : Hp} {s : Shared} {fs : List (Str × V)} (I : Inv (X.suite a ((a, oe) :: pn)) pins σ H s) (hz : Zc (.ref C) (some dd) oe) (hf : ∃ vs, oe.data = .fields vs) (hd : H dd = some (.xd fs)) :
    ∃ od, PySem.W.InstAt s.heap a oe C (some od) := by
  obtain ⟨ha, _⟩ := I.pin (a, oe) (List.mem_append_left _ List.mem_cons_self)
  obtain ⟨vs, hv⟩ := hf
  have hx : ObjOk X.prog X.w H s.heap dd (.xd fs) := I.hok dd _ hd
  obtain ⟨mA, hns, hr⟩ := hx
  obtain ⟨od, ho, hl⟩ := lookIn_ns hns
  exact ⟨od, ha, hz.1, by unfold PySem.W.notCls; rw [hv] <;> rfl, by rw [hz.2]; exact ho⟩
def rIsX (K : PySem.W.Frag) (C a dd : Addr) : List V → Hp → VK → Prop := fun xs H Q => ∃ (c : V) (u : Value) (b : Bool) (fs : List (Str × V)), xs = [.ref a, c] ∧ ClsV c u ∧ PySem.W.kitOne K (.ref C) u = some b ∧ H dd = some (.xd fs) ∧ Q (.bl b) H
def rIsXT (K : PySem.W.Frag) (C a dd : Addr) : List V → Hp → VK → Prop := fun xs H Q => ∃ (tp : Addr) (cs : List V) (us : List Value) (b : Bool) (fs : List (Str × V)), xs = [.ref a, .ref tp] ∧ H tp = some (.tup cs) ∧ Paired ClsV cs us ∧ PySem.W.kitAny K (.ref C) us = some b ∧ H dd = some (.xd fs) ∧ Q (.bl b) H
theorem call_isX (E : ErrC X.K C ns) (hz : Zc (.ref C) (some dd) oe) (hf : ∃ vs, oe.data = .fields vs) : CallR (X.suite a ((a, oe) :: pn)) (.builtin "isinstance") (rIsX X.K C a dd) := by
  intro pins s σ H xs us Q I r h
  obtain ⟨c, u, b, fs, rfl, k, e, hd, q⟩ := h
  cases r with
  | cons rx rr =>
    cases rr with
    | cons rt rr =>
      cases rr
      cases rx
      have ec := k.eq rt
      subst ec
      obtain ⟨od, J⟩ := held_at I hz hf hd
      exact PySem.W.kia_one (PySem.W.kitx_exc E.cl E.xf.ga E.xf.gg E.xf.exC E.ca E.sp E.tk E.mo) I.kIn J e (fun z => nomatch z) fun tk => ⟨.bl b, H, I.kept (t' := tk) fun _ _ z => z, rfl, q⟩
theorem call_isXT (E : ErrC X.K C ns) (hz : Zc (.ref C) (some dd) oe) (hf : ∃ vs, oe.data = .fields vs) : CallR (X.suite a ((a, oe) :: pn)) (.builtin "isinstance") (rIsXT X.K C a dd) := by
  intro pins s σ H xs us Q I r h
  obtain ⟨tp, cs, ws, b, fs, rfl, ht, k, e, hd, q⟩ := h
  cases r with
  | cons rx rr =>
    cases rr with
    | cons rt rr =>
      cases rr
      cases rx
      cases rt
      obtain ⟨its, rv, ⟨⟨cls, ddd, data, sl⟩, ho, hc, n, hdt⟩, _⟩ := I.tuple (.inl (.inl ht))
      simp only at hc hdt
      subst hc hdt
      have e3 := ClsV.all k rv
      subst e3
      obtain ⟨od, J⟩ := held_at I hz hf hd
      exact PySem.W.kia_tup (PySem.W.kitx_exc E.cl E.xf.ga E.xf.gg E.xf.exC E.ca E.sp E.tk E.mo) I.kIn J ho e (fun z => nomatch z) fun tk => ⟨.bl b, H, I.kept (t' := tk) fun _ _ z => z, rfl, q⟩
end
end GM

set_option maxRecDepth 100000
set_option maxHeartbeats 3200000
/-! GM: math.lcm; sorted(set(xs)), xs a list of ints -/
namespace GM
open PySem PySem.Spec PyProof.Rows L2
theorem log_max {a b k : Nat} (ha : a.log2 < k) (hb : b.log2 < k) : (max a b).log2 < k := by
  rcases Nat.le_total a b with h | h
  · rw [Nat.max_eq_right h]; exact hb
  · rw [Nat.max_eq_left h]; exact ha
theorem log_mul {a b k : Nat} (ha : a.log2 < k) (hb : b.log2 < k) : (a * b).log2 < 2 * k + 1 := by
  by_cases h0 : a = 0
  · subst h0; simp
  · by_cases h1 : b = 0
    · subst h1; simp
    · have e : a * b ≠ 0 := Nat.mul_ne_zero h0 h1
      rw [Nat.log2_lt e]
      have := (Nat.log2_lt h0).mp ha
      have := (Nat.log2_lt h1).mp hb
      calc a * b < 2 ^ k * 2 ^ k := Nat.mul_lt_mul'' ‹_› ‹_›
        _ = 2 ^ (k + k) := (Nat.pow_add 2 k k).symm
        _ ≤ 2 ^ (2 * k + 1) := Nat.pow_le_pow_right (by decide) (by omega)
theorem log_le {a b : Nat} (h : a ≤ b) {k : Nat} (hb : b.log2 < k) : a.log2 < k := by
  by_cases h0 : a = 0
  · subst h0
    rw [Nat.log2_zero]; omega
  · rw [Nat.log2_lt h0]
    have := (Nat.log2_lt (by omega : b ≠ 0)).mp hb
    omega
def rLcm : List V → Hp → VK → Prop := fun xs H Q => ∃ i j : Int, xs = [.int i, .int j] ∧ i.natAbs.log2 < 9000 ∧ j.natAbs.log2 < 9000 ∧ Q (.int (Nat.lcm i.natAbs j.natAbs : Nat)) H
theorem cr_lcm {X : Cx} : CallR X (.builtin "math.lcm") rLcm := by
  intro pins s σ H vs us Q I r h
  obtain ⟨i, j, rfl, hi, hj, q⟩ := h
  obtain ⟨t, u, rfl⟩ := Vals.int2 r
  have e1 : Nat.lcm 1 i.natAbs = i.natAbs := Nat.lcm_one_left _
  have m1 : (max 1 i.natAbs).log2 < 9000 := log_max (by decide) hi
  have m2 : (max i.natAbs j.natAbs).log2 < 9000 := log_max hi hj
  have m3 : (Nat.lcm i.natAbs j.natAbs).log2 < 18001 := by
    refine log_le (b := i.natAbs * j.natAbs) ?_ (log_mul hi hj)
    exact Nat.div_le_self _ _
  have g := PySem.W.mg_run_lcm i t j u (by omega) (by omega) (by rw [e1]; show _ < 2 ^ 27; rw [Int.natAbs_natCast]; exact Nat.lt_trans m3 (by decide))
  rw [e1] at g
  exact PySem.call_function_meets PySem.W.MGF.kind_lcm PySem.W.MGF.plain_lcm PySem.W.MGF.entry_lcm (PySem.W.MGF.args_lcm _ _) g.meets ⟨.int _, H, I.tok _, ⟨_, rfl⟩, q⟩
section
variable {P : Program} {w : World} {A : Around} {E : Value → Shared → Prop} {s : Shared}
/-- a new set, as it is made -/
abbrev so0 (w : World) : Obj := { cls := .type "set", dict := none, data := .set #[] 0 (.fresh 0 0 (!w.params.followText "set-order")) }
theorem set_of_list {l : Addr} {items : Array Value} (ns : List Int) {Q : Value → Shared → Prop} (hh : A.handled = none) (hl : s.heap.IsList l items) (hit : IntsAre items.toList ns) (hb : ns.length + 1 < scanBound)
    (h : ∀ (h' : Heap) (tk c : Nat), SetR w h' s.heap.objs.size (fun j => decide (j ∈ ns)) c → c ≤ ns.length → (∀ b o, s.heap.get? b = some o → h'.get? b = some o) → Q (.ref s.heap.objs.size) { s with heap := h', toks := tk }) : wpAny (model P w) A (call (.type "set") [.ref l]) Q E s := by
  have zi : items.size = ns.length := by rw [← Array.length_toList]; exact IntsAre.length hit
  obtain ⟨cm, tlm, hmro⟩ := F.called_set.mro
  have made := F.called_set.made; have isub := F.called_set.sub
  refine wpAny_call (codeAny_of_tree ?_); show wpAny _ _ (callAny (.type "set") _) _ _ _
  refine wpAny_pure ⟨Code.quiet_builtin _ (by decide +kernel), codeAny_builtin F.entry_type_call ?_⟩; rw [Around.under_plain (weight_type_call_type "set" [.ref l] []) rfl]
  have nt := F.called_set.notType; have cc := F.called_set.canCreate; have ct := F.typeCall_set_1 (.ref l)
  repeat (any_goals (first | assumption | wp_step))
  refine codeAny_mono (code_set_led1 (.ref l) (E := E) (Q₁ := fun obj s₁ => obj = .ref s.heap.objs.size ∧ s₁ = { s with heap := s.heap.push (so0 w) }) ⟨rfl, rfl⟩) fun r s₁ hr => ?_
  cases r with
  | error e => exact hr
  | ok fl =>
    cases fl with
    | ret obj =>
      obtain ⟨rfl, rfl⟩ := hr
      have hS : (s.heap.push (so0 w)).get? s.heap.objs.size = some (so0 w) := Heap.get?_push_size _ rfl
      have hT : Shared.TypeIs { s with heap := s.heap.push (so0 w) } (.ref s.heap.objs.size) "set" := ⟨_, hS, rfl⟩
      have li := F.called_set.init.lookup; have bi := F.called_set.init.bind (.ref s.heap.objs.size)
      repeat (any_goals (first | assumption | wp_step))
      refine codeAny_mono (codeAny_call_builtin (R := wants (fun r s₂ => r = .none ∧ ∃ h' tk c, s₂ = { s with heap := h', toks := tk } ∧ SetR w h' s.heap.objs.size (fun j => decide (j ∈ ns)) c ∧ c ≤ ns.length ∧ (∀ b o, s.heap.get? b = some o → h'.get? b = some o)) E) F.called_set.init.plain F.entry_set_init (check_set_init_1 hT ?_)) fun r₂ s₂ hr₂ => ?_
      · obtain ⟨ol, hol, hcl, nl, hdl⟩ := hl
        obtain ⟨ocls, odict, odata, oslots⟩ := ol
        simp only at hcl hdl; subst hcl; subst hdl
        have hol' : (s.heap.push (so0 w)).get? l = some { cls := .type "list", dict := odict, data := .seq items nl, slots := oslots } := Heap.get?_push_of_some _ hol
        have sb1 := F.sub_list_set; have sb2 := F.sub_list_frozenset
        have ne : (Value.type "list" == Value.type "dict") = false := by decide
        have hl1 : (s.heap.push (so0 w)).IsList l items := ⟨_, hol', rfl, nl, rfl⟩
        unfold Builtin.«set.__init__» noKeywords Builtin.Frozenset.updateFrom
        generalize hPI : pyIter = PI
        wp_walk
        subst hPI
        refine wpAny_pyIter_list hl1 ?_; refine wpAny_bind (wpAny_runValue ?_)
        have lS : l < s.heap.objs.size := Heap.lt_size hol
        have h3 : A.in1.in1.in1.handled = none := by simp [hh]
        have sz : (s.heap.push (so0 w)).objs.size = s.heap.objs.size + 1 := Heap.size_push ..
        have nI : l ≠ (s.heap.push (so0 w)).objs.size := by rw [sz]; exact Nat.ne_of_lt (Nat.lt_succ_of_lt lS)
        have fS : s.heap.objs.size ∉ [(s.heap.push (so0 w)).objs.size, l] := by
          rw [sz]; intro hm
          rcases List.mem_cons.mp hm with z | z
          · exact Nat.ne_of_lt (Nat.lt_succ_self _) z
          · exact Nat.ne_of_gt lS (List.mem_singleton.mp z)
        have val : ∀ (i : Nat) (v : Value), items[i]? = some v → ∃ k t, ns[i]? = some k ∧ v = .int k t := fun i v hv => by
          have hi : i < ns.length := by rw [← zi]; exact (Array.getElem?_eq_some_iff.mp hv).1
          obtain ⟨t, e⟩ := PyProof.Rows.IntsAre.int_at hit i v (by rw [Array.getElem?_toList]; exact hv)
          exact ⟨ns[i], t, List.getElem?_eq_getElem hi, by rw [e, List.getD_eq_getElem?_getD, List.getElem?_eq_getElem hi] <;> rfl⟩
        refine set_update_ints ((Walks.list h3 _ l nI items).toS) s.heap.objs.size fS ns zi hb val (items.size - 0) 0 _ (by omega) (Nat.zero_le _) ⟨⟨_, Heap.get?_push_size _ rfl, rfl, rfl⟩, hl1.push _⟩ ?st ?fin
        case st => exact ⟨0, Nat.le_refl 0, setR_new_at (Heap.get?_push_of_some _ hS)⟩
        case fin =>
          intro s' c' hm hc' hS'
          obtain ⟨h', g2, d', tk', os'⟩ := s'
          obtain rfl : g2 = s.gens := hm.gens
          obtain rfl : d' = s.drawn := hm.drawn
          obtain rfl : os' = s.os := hm.os
          show wpAny _ _ _ _ _ _
          refine wpAny_pure ?_; show wpAny _ _ (ret Value.none) _ _ _
          rw [zi] at hc'
          refine wpAny_pure ⟨rfl, h', tk', c', rfl, hS', hc', fun b o e => ?_⟩
          have b0 := Heap.lt_size e
          refine hm.heap b o ?_ (Heap.get?_push_of_some _ (Heap.get?_push_of_some _ e))
          intro hx
          rcases List.mem_cons.mp hx with z | z
          · exact Nat.ne_of_lt b0 z
          · have z := List.mem_singleton.mp z
            rw [z, sz] at b0
            exact absurd b0 (Nat.not_lt_of_le (Nat.le_succ _))
      · cases r₂ with
        | error e => exact hr₂
        | ok fl₂ =>
          cases fl₂ with
          | ret v₂ =>
            obtain ⟨rfl, h', tk, c, rfl, hR, hc, hk⟩ := hr₂
            repeat (any_goals (first | assumption | wp_step))
            exact h _ _ _ hR hc hk
          | _ => exact hr₂.elim
    | _ => exact hr.elim
end
/-! ints in order, each once -/
def insU (x : Int) : List Int → List Int
  | [] => [x]
  | y :: r => if x < y then x :: y :: r else if x = y then y :: r else y :: insU x r
def ssI (ns : List Int) : List Int := ns.foldr insU []
theorem mem_insU {x k : Int} : ∀ {l : List Int}, k ∈ insU x l ↔ k = x ∨ k ∈ l
  | [] => by simp [insU]
  | y :: r => by
    unfold insU
    split
    · simp
    · split
      · rename_i e; subst e; simp
      · rw [List.mem_cons, mem_insU, List.mem_cons]
        constructor
        · rintro (h | h | h)
          · exact .inr (.inl h)
          · exact .inl h
          · exact .inr (.inr h)
        · rintro (h | h | h)
          · exact .inr (.inl h)
          · exact .inl h
          · exact .inr (.inr h)
theorem insU_up {x : Int} : ∀ {l : List Int}, l.Pairwise (· < ·) → (insU x l).Pairwise (· < ·)
  | [], _ => by simp [insU]
  | y :: r, h => by
    obtain ⟨h1, h2⟩ := List.pairwise_cons.mp h
    unfold insU
    split
    · refine List.pairwise_cons.mpr ⟨fun z hz => ?_, h⟩
      rcases List.mem_cons.mp hz with e | hz
      · omega
      · have := h1 z hz; omega
    · split
      · exact h
      · refine List.pairwise_cons.mpr ⟨fun z hz => ?_, insU_up h2⟩
        rcases mem_insU.mp hz with e | hz
        · omega
        · exact h1 z hz
theorem mem_ssI {k : Int} : ∀ {ns : List Int}, k ∈ ssI ns ↔ k ∈ ns
  | [] => by simp [ssI]
  | n :: ns => by
    show k ∈ insU n (ssI ns) ↔ _
    rw [mem_insU, mem_ssI, List.mem_cons]
theorem ssI_up : ∀ {ns : List Int}, (ssI ns).Pairwise (· < ·)
  | [] => by simp [ssI]
  | n :: ns => insU_up (ssI_up (ns := ns))
theorem up_uniq : ∀ {xs ys : List Int}, xs.Pairwise (· < ·) → ys.Pairwise (· < ·) → (∀ k, k ∈ xs ↔ k ∈ ys) → xs = ys
  | [], [], _, _, _ => rfl
  | [], y :: ys, _, _, h => absurd ((h y).mpr List.mem_cons_self) (by simp)
  | x :: xs, [], _, _, h => absurd ((h x).mp List.mem_cons_self) (by simp)
  | x :: xs, y :: ys, h1, h2, h => by
    obtain ⟨a1, a2⟩ := List.pairwise_cons.mp h1
    obtain ⟨b1, b2⟩ := List.pairwise_cons.mp h2
    have e : x = y := by
      rcases List.mem_cons.mp ((h x).mp List.mem_cons_self) with e | e
      · exact e
      · rcases List.mem_cons.mp ((h y).mpr List.mem_cons_self) with e2 | e2
        · exact e2.symm
        · have := b1 x e; have := a1 y e2; omega
    subst e
    rw [up_uniq a2 b2 fun k => ?_]
    constructor
    · intro hk
      rcases List.mem_cons.mp ((h k).mp (List.mem_cons_of_mem _ hk)) with e | e
      · have := a1 k hk; omega
      · exact e
    · intro hk
      rcases List.mem_cons.mp ((h k).mpr (List.mem_cons_of_mem _ hk)) with e | e
      · have := b1 k hk; omega
      · exact e
section
variable {X : Cx}
def tSset (K : PySem.W.Frag) (ta : TE) : TE := fun σ H Q => ta σ H fun x H1 => ∃ (l : Addr) (ns : List Int), x = V.ref l ∧ SqL K H1 l (ns.map V.int) ∧ ns.length < 64 ∧ ∀ p, H1 p = none → Q (.ref p) (upd H1 p (.lst ((ssI ns).map V.int)))
theorem pe_sset {a : Expr} {ta : TE} {p p2 q pos : Pos} (hc : X.calm = true) (hg : Gl X "sorted") (hm : X.mg "sorted" = none) (hg2 : Gl X "set") (hm2 : X.mg "set" = none) (ha : PE X a ta)
    (na : starEach [a] X.env = (false, eval a X.env) :: starEach [] X.env) : PE X (.Call (.Name "sorted" p) [.Call (.Name "set" p2) [a] [] q] [] pos) (tSset X.K ta) := by
  refine ⟨fun pins s σ H Q I h => Call_ (ld_blt I hg hm (show bootBuiltins "sorted" = some (.builtin "sorted") by decide +kernel) (PyProof.Rows.callWith_builtin1 (PyProof.Rows.args_cons ?_ rfl) rfl rfl))⟩
  refine Call_ (ld_blt I hg2 hm2 PyProof.Rows.boot_set (PyProof.Rows.callWith_type1 (PyProof.Rows.args_cons (thn (ha.run pins s σ H _ I h) fun v s1 ⟨x, H1, I1, r1, q1⟩ => PyProof.Rows.args_nil ?_) na) na rfl))
  obtain ⟨l, ns, rfl, hq, hl, q1⟩ := q1
  cases r1
  obtain ⟨its, r, pl, hz⟩ := I1.list hq
  have hd := I1.ok.hd hc
  refine set_of_list ns hd pl.isList (by simpa using r.ints) (by unfold scanBound; omega) fun h' tk c R hcn k => PyProof.Rows.args_nil ?_
  have I2 : Inv X pins σ H1 { s1 with heap := h', toks := tk } := I1.kept k
  refine sorted_set (s := { s1 with heap := h', toks := tk }) R hd (by omega) fun s2 p out e us k2 g2 o2 hp hpo hi hup hmem hlen => ?_
  have eu : us = ssI ns := up_uniq hup ssI_up fun j => by rw [hmem, mem_ssI, decide_eq_true_eq]
  subst eu
  have J : Inv X pins σ (upd H1 p (.lst ((ssI ns).map V.int))) { s1 with heap := s2.heap, toks := s2.toks } := I2.laid (t' := s2.toks) k2 hp ⟨by rw [List.length_map, hlen, sizeLine_eq]; omega, out.toList, e, vals_of_ints hi, by rw [Array.toArray_toList]; exact hpo⟩
  exact ⟨.ref p, _, J.call' (s' := s2) (ch := []) o2 (Un.kept fun b u z => z) (J.hok.kept fun b u z => z) (by rw [g2]; exact I1.bare) (fun _ z => nomatch z), rfl, q1 p (I2.hok.fresh hp)⟩
end
end GM

set_option maxRecDepth 100000
set_option maxHeartbeats 1000000
/-! sorted of a list or a tuple: whole numbers, tuples of whole numbers of any lengths -/
namespace PySem.W
open PySem PySem.Calls PyProof.Rows
section
variable {prog : Program} {w : World} {A : Around} {E : Value → Shared → Prop} {s : Shared}
theorem collect_tup {l : Addr} {vs : List Value} {Q : List Value → Shared → Prop} (hl : s.heap.IsTuple l vs.toArray)
    (h : Q vs { s with heap := (s.heap.push (seqObj "list" #[] 0)).update s.heap.objs.size (Obj.mapSeq (· ++ vs.toArray)) }) (hsz : vs.length ≤ sizeLine) :
    wpAny (model prog w) A (collect (.ref l)) Q E s := by
  obtain ⟨o, ho, hc, n, hd⟩ := id hl
  unfold collect
  refine wpAny_bind (wpAny_runValue (codeAny_builtin entry_proto_collect' ?_))
  show wpAny _ _ (do again (.builtin "list.__iadd__" ⟨[← newList [], .ref l], []⟩)) _ _ s
  refine wpAny_bind (wpAny_newList (wpAny_pure ⟨Code.quiet_builtin _ (by decide +kernel), codeAny_builtin entry_list_iadd' ?_⟩))
  show wpAny _ _ (Builtin.List.listExtendWith (.ref s.heap.objs.size) (.ref l) (.ref s.heap.objs.size)) _ _ { s with heap := s.heap.push (seqObj "list" #[] 0) }
  unfold Builtin.List.listExtendWith
  have ho' : (s.heap.push (seqObj "list" #[] 0)).get? l = some o := Heap.get?_push_of_some _ ho
  refine wpAny_bind (wpAny_typeOf (T := "tuple") ⟨o, ho', hc⟩ ?_)
  have ht : (Value.type "tuple" == Value.type "tuple") = true := by rfl
  rw [if_pos (by rw [ht]; simp)]
  refine wpAny_bind (listItems_at ho' hd ?_)
  refine wpAny_bind (listItems_at (xs := #[]) (n := 0) (Heap.get?_push_size _ rfl) rfl ?_)
  rw [if_neg (by simp)]
  refine wpAny_bind (listUpdate_at (xs := #[]) (n := 0) (Heap.get?_push_size _ rfl) rfl ?_ (Nat.zero_le _) (by show (#[] ++ vs.toArray).size ≤ sizeLine + 1; simp only [Array.size_append, List.size_toArray, List.length_nil]; omega))
  refine wpAny_pure ?_
  show wpAny (model prog w) A (do
      let o ← load s.heap.objs.size
      match o.data with
      | .seq xs _ => pure xs.toList
      | _ => unsupported "internal:collect") Q E { s with heap := (s.heap.push (seqObj "list" #[] 0)).update s.heap.objs.size (Obj.mapSeq (· ++ vs.toArray)) }
  refine wpAny_bind (wpAny_load (get?_update_seq (Heap.get?_push_size _ rfl) _) ?_)
  show wpAny _ _ (pure ((#[] : Array Value) ++ vs.toArray).toList) Q E _
  rw [show ((#[] : Array Value) ++ vs.toArray).toList = vs by simp]
  exact wpAny_pure h
theorem sorted_valsT {κ : PyProof.Rows.KeyKind} {l : Addr} {vs : List Value} {Q : Value → Shared → Prop} (hl : s.heap.IsTuple l vs.toArray) (S : SortsAt prog w A.in1.in1 { s with heap := sortingHeap (copyHeap s.heap vs) (s.heap.objs.size + 1) vs } κ vs) (hL : vs.length ≤ sizeLine)
    (h : Q (.ref (s.heap.objs.size + 1)) { s with heap := sortedAll s.heap vs (sortVals κ false vs vs).toArray }) : wpAny (model prog w) A (call (.builtin "sorted") [.ref l]) Q E s := by
  refine call_function_entry_kw kind_sorted plain_sorted entry_sorted (args_sorted1 _) ?_
  unfold Builtin.«sorted»
  refine wpAny_bind (m := checkCount "sorted" 1 1 _) (wpAny_pure ?_)
  refine wpAny_bind (collect_tup hl ?_ hL)
  refine wpAny_bind (wpAny_newList ?_ hL)
  have hsz : ((s.heap.push (seqObj "list" #[] 0)).update s.heap.objs.size (Obj.mapSeq (· ++ vs.toArray))).objs.size = s.heap.objs.size + 1 := by
    rw [Heap.size_update, size_push']
  show wpAny _ _ _ _ _ { s with heap := copyHeap s.heap vs }
  rw [hsz]
  refine wpAny_bind (wpAny_holding (wpAny_call_entry_kw slot_list_sort ⟨_, copyHeap_at s.heap vs, rfl⟩ entry_list_sort ?body (args_list_sort _)))
  case body =>
    show wpAny (model prog w) A.in1.in1 (Builtin.«list.sort» ⟨[.ref (s.heap.objs.size + 1)], []⟩) _ _ _
    refine wpAny_mono (list_sort_vals (s := { s with heap := copyHeap s.heap vs }) (copyHeap_at s.heap vs) S hL (P := fun f s' => f = .done (.ret .none) ∧ Q (.ref (s.heap.objs.size + 1)) s') ⟨rfl, h⟩) (fun f s' hf => ?_) fun _ _ e => e
    obtain ⟨rfl, hq⟩ := hf
    exact ⟨_, rfl, wpAny_pure ⟨_, rfl, hq⟩⟩
end
/-! tuples of ints, some of them empty -/
def IsTupI (h : Heap) (v : Value) (ns : List Int) : Prop :=
  ∃ (a : Addr) (dd : Option Addr) (items : Array Value) (n : Nat) (sl : Array (Option Value)), v = .ref a ∧ h.get? a = some { cls := .type "tuple", dict := dd, data := .seq items n, slots := sl } ∧ IntsAre items.toList ns
theorem ints_reads {h : Heap} : ∀ {ns : List Int} {vs : List Value} {as : List Addr}, ReadsAll h vs (ns.map PyData.int) as → IntsAre vs ns
  | [], _, _, r => by cases r; exact .nil
  | n :: ns, _, _, r => by
    cases r with
    | cons r1 r2 => cases r1; exact .cons _ _ (ints_reads r2)
theorem reads_tupI {h : Heap} {v : Value} {ns : List Int} {as : List Addr} (r : Reads h v (.tuple (ns.map PyData.int)) as) : IsTupI h v ns := by
  cases r with
  | @tuple a o xs n _ _ ho hc hd hr =>
    obtain ⟨cls, dd, data, sl⟩ := o
    simp only at hc hd
    subst hc; subst hd
    exact ⟨a, dd, xs, n, sl, rfl, ho, ints_reads hr⟩
theorem IsTupI.type {M : Model} {h : Heap} {v : Value} {ns : List Int} (x : IsTupI h v ns) : Looks M h (typeOf v) (.type "tuple") := by
  obtain ⟨a, dd, items, n, sl, rfl, g, i⟩ := x
  exact (Looks.ld g).andThen .now
theorem lexLt_dec : ∀ ns ms : List Int, HT.lexLt ns ms = decide (ns < ms)
  | [], [] => by decide
  | [], m :: ms => by rw [HT.lexLt_nil_cons]; simp
  | n :: ns, [] => by rw [HT.lexLt_cons_nil]; simp
  | n :: ns, m :: ms => by
    rw [HT.lexLt_cons, lexLt_dec ns ms]
    by_cases e : n = m
    · subst e; simp [List.cons_lt_cons_iff]
    · rw [if_neg e]; simp [List.cons_lt_cons_iff, e]
section
variable {prog : Program} {w : World} {A : Around} {E : Value → Shared → Prop} {s : Shared}
theorem call_ltT {a b : Addr} {dd dd2 : Option Addr} {items items2 : Array Value} {n n2 : Nat} {sl sl2 : Array (Option Value)} {ns ms : List Int} {Q : Value → Shared → Prop} (ga : s.heap.get? a = some { cls := .type "tuple", dict := dd, data := .seq items n, slots := sl })
    (gb : s.heap.get? b = some { cls := .type "tuple", dict := dd2, data := .seq items2 n2, slots := sl2 }) (ia : IntsAre items.toList ns) (ib : IntsAre items2.toList ms) (iv : Looks (model prog w) s.heap (isInstance (.ref a) (.type "tuple")) true)
    (iu : ∀ M : Model, Looks M s.heap (isInstance (.ref b) (.type "tuple")) true) (h : Q (.bool (HT.lexLt ns ms)) s) : wpAny (model prog w) A (call (.builtin "tuple.__lt__") [.ref a, .ref b]) Q E s := by
  refine wpAny_call (codeAny_call_builtin PySem.F.slot_tuple_lt.plain PySem.F.entry_tuple_lt (@check_slot (model prog w) _ _ _ "tuple.__lt__" "tuple" "__lt__" (.ref a) [.ref b] [] _ (by decide +kernel) (by decide +kernel) iv (PySem.F.args_tuple_lt_2 _ _) ?_))
  refine wpAny_mono (NtL.nt_lt_ints a b (.type "tuple") (.type "tuple") items items2 n n2 dd dd2 sl sl2 ns ms ia ib prog w _ (wants Q E) s ⟨ga, gb, iu, h⟩) (fun fin s' q => ?_) fun _ _ z => z
  cases fin with
  | done f => exact q
  | again c => exact q
theorem lt_tupI {v u : Value} {ns ms : List Int} {Q : Bool → Shared → Prop} (hu : A.units < cLine) (hv : IsTupI s.heap v ns) (hw : IsTupI s.heap u ms) (h : Q (HT.lexLt ns ms) s) : wpAny (model prog w) A (keyLt' oneType' v u) Q E s := by
  have tv : Looks (model prog w) s.heap (typeOf v) (.type "tuple") := hv.type
  have sp : Looks (model prog w) s.heap (specialOf v "__lt__") (some (.builtin "tuple.__lt__")) := tv.andThen (Looks.of_pure PySem.F.slot_tuple_lt.lookup)
  have iv : Looks (model prog w) s.heap (isInstance v (.type "tuple")) true := tv.andThen (Looks.of_pure isSubtype_tuple_tuple)
  have iu : ∀ M : Model, Looks M s.heap (isInstance u (.type "tuple")) true := fun M => (hw.type (M := M)).andThen (Looks.of_pure isSubtype_tuple_tuple)
  obtain ⟨a, dd, items, n, sl, rfl, ga, ia⟩ := hv
  obtain ⟨b, dd2, items2, n2, sl2, rfl, gb, ib⟩ := hw
  rw [keyLt'_oneType, oneLt'_eq]
  simp only [if_true]
  refine wpAny_bind (wpAny_cRoomFor hu ?_)
  refine wpAny_bind (NtL.csib (E := E) sp (PySem.F.slot_tuple_lt.bind _) (call_ltT ga gb ia ib iv iu (wpAny_truthy_bool h)))

/-- the firsts of tuples, one of which may be none -/
theorem firsts_any {M : Model} {A : Around} {E : Value → Shared → Prop} : ∀ {vs : List Value} {bs : List (List Int)}, EachIs (fun v b => IsTupI s.heap v b) vs bs →
    ∃ fs : List (Option Value), EachIs (fun f b => f.isSome = !b.isEmpty) fs bs ∧ ∀ Q : List (Option Value) → Shared → Prop, Q fs s → wpAny M A (vs.mapM firstOfTuple') Q E s
  | _, _, .nil => ⟨[], .nil, fun Q h => by rw [List.mapM_nil]; exact wpAny_pure h⟩
  | _, _, .cons (b := b) ⟨a, dd, items, n, sl, e, g, ia⟩ t => by
    obtain ⟨fs, h1, h2⟩ := firsts_any (M := M) (A := A) (E := E) t
    subst e
    refine ⟨items[0]? :: fs, .cons ?_ h1, fun Q h => ?_⟩
    · rw [← Array.getElem?_toList]
      revert ia
      generalize items.toList = l
      intro ia
      cases ia <;> rfl
    · rw [List.mapM_cons]
      refine wpAny_bind ?_
      rw [kas_first_eq]
      refine wpAny_bind (Looks.here (show Looks M s.heap (typeOf (.ref a)) (.type "tuple") from (Looks.ld g).andThen .now) ?_)
      rw [if_neg (by first | decide | simp)]
      refine wpAny_bind (listItems_at g rfl (wpAny_pure ?_))
      exact wpAny_bind (h2 (fun bs s' => wpAny M A (pure (items[0]? :: bs)) Q E s') (wpAny_pure h))
theorem kind_tups {M : Model} {A : Around} {E : Value → Shared → Prop} {vs : List Value} {b0 : List Int} {bs : List (List Int)} {Q : SortKind → Shared → Prop} (e : EachIs (fun v b => IsTupI s.heap v b) vs (b0 :: bs)) (h0 : [] ∈ b0 :: bs)
    (h : Q (if b0 = [] then oneType' else general') s) : wpAny M A (keyKind' vs.toArray) Q E s := by
  obtain ⟨fs, h1, h2⟩ := firsts_any (M := M) (A := A) (E := E) e
  rw [kat_kind_eq, List.mapM_toArray, map_eq_pure_bind]
  refine wpAny_bind (wpAny_bind (h2 _ (wpAny_pure ?_)))
  obtain ⟨f, hf, hfe⟩ : ∃ f ∈ fs, f.isSome = false := by
    clear h2 e h
    generalize b0 :: bs = ys at h0 h1
    induction h1 with
    | nil => cases h0
    | cons a t ih =>
      rcases List.mem_cons.mp h0 with z | z
      · subst z; exact ⟨_, List.mem_cons_self, a⟩
      · obtain ⟨f, m, x⟩ := ih z; exact ⟨f, List.mem_cons_of_mem _ m, x⟩
  have hall : (fs.toArray.all fun x => x.isSome) = false := by
    rw [List.all_toArray, List.all_eq_false]
    exact ⟨f, hf, by rw [hfe]; exact Bool.false_ne_true⟩
  rw [hall, if_neg Bool.false_ne_true]
  clear hall hf hfe f h2
  cases h1 with
  | @cons f0 _ fs _ g1 g2 =>
  have e0 : ((f0 :: fs).toArray[0]?.bind id) = f0 := by simp
  rw [e0]
  cases b0 with
  | cons n ns =>
    have g : f0.isSome = true := g1
    rw [g, if_pos rfl]
    rw [if_neg (by simp)] at h
    exact wpAny_pure h
  | nil =>
    have g : f0.isSome = false := g1
    rw [if_pos rfl] at h
    rw [g, if_neg Bool.false_ne_true]
    rw [oneTypeOnly'_eq, List.mapM_toArray, map_eq_pure_bind]
    refine wpAny_bind (wpAny_bind (wpAny_bind (kas_mapM (r := Value.type "tuple") _ (fun v hv Q' hq => ?_) (wpAny_pure ?_))))
    · obtain ⟨b, _, x⟩ := e.left v hv
      exact x.type.here hq
    · have hall2 : ((List.map (fun _ => Value.type "tuple") vs).toArray.all fun x => x == Value.type "tuple") = true := by
        simp only [List.all_toArray, List.all_map, List.all_eq_true]
        intro _ _
        exact beq_self_eq_true _
      have hv : ∃ v vs', vs = v :: vs' := by cases e; exact ⟨_, _, rfl⟩
      obtain ⟨v, vs', rfl⟩ := hv
      have h0 : (List.map (fun _ => Value.type "tuple") (v :: vs')).toArray[0]? = some (Value.type "tuple") := by simp
      rw [h0]
      simp only [hall2, if_true]
      exact wpAny_pure (wpAny_pure h)
theorem depth_rows (b : List Int) : (PyData.tuple (b.map PyData.int)).depth ≤ 1 := by
  show PyData.depthAll (b.map PyData.int) + 1 ≤ 1
  rw [depth_ints]; exact Nat.le_refl _
/-- tuples of whole numbers can be sorted -/
theorem SortsAt.tups {vs : List Value} {bs : List (List Int)} (e : EachIs (fun v b => ∃ as, Reads s.heap v (.tuple (b.map PyData.int)) as) vs bs) (hu : A.units + 1 < cLine) :
    SortsAt prog w A s (dataKind s.heap (bs.map fun b => .tuple (b.map PyData.int))) vs := by
  have hal : AllAlike (bs.map fun b => PyData.tuple (b.map PyData.int)) := AllAlike.of fun b b' => by show alikeAll _ _ = true; exact alike_ints b b'
  have room : ∀ b : List Int, A.units + (PyData.tuple (b.map PyData.int)).depth < cLine := fun b => by have := depth_rows b; omega
  by_cases hall : [] ∈ bs
  · refine ⟨fun v hv => ?_, ?_⟩
    · obtain ⟨b, hb, as, r⟩ := e.left v hv
      exact ⟨_, dataKind_some hal (List.mem_map_of_mem hb) r⟩
    · cases bs with
      | nil => cases hall
      | cons b0 bs0 =>
        refine ⟨if b0 = [] then oneType' else general', ?_, fun h2 E Q hq => ?_⟩
        · intro E x y a b Q ha hb hq
          obtain ⟨d, as, hd, ra, rfl⟩ := dataKind_inv ha
          obtain ⟨d', as', hd', rb, rfl⟩ := dataKind_inv hb
          obtain ⟨ns, _, rfl⟩ := List.mem_map.mp hd
          obtain ⟨ms, _, rfl⟩ := List.mem_map.mp hd'
          have hq' : Q (dataLt (.tuple (ns.map PyData.int)) (.tuple (ms.map PyData.int))) s := hq
          split
          · refine lt_tupI (by omega) (reads_tupI ra) (reads_tupI rb) ?_
            rw [dataLt_tuple] at hq'
            have z : Q (rowLt (ns.map PyData.int) (ms.map PyData.int)) s := hq'
            rw [dataLt_ints] at z
            rw [lexLt_dec]
            exact z
          · show wpAny _ A (oneLt' false x y) Q E s
            refine oneLt_alike (fun h => by cases h) ra rb (hal _ hd _ hd') (by simp) ?_ hq'
            have := room ns
            have := Nat.min_le_left (PyData.tuple (ns.map PyData.int)).depth (PyData.tuple (ms.map PyData.int)).depth
            omega
        · exact kind_tups (e.mono fun _ _ ⟨as, r⟩ => reads_tupI r) hall hq
  · refine SortsAt.data (each_map (R := fun v d => ∃ as, Reads s.heap v d as) _ e) hal (.inl fun d hd => ?_) (bound_map (bs := bs) fun b _ => room b)
    obtain ⟨b, hb, rfl⟩ := List.mem_map.mp hd
    cases b with
    | nil => exact absurd hb hall
    | cons n ns => exact ⟨_, _, rfl⟩
theorem SortsAt.ints {vs : List Value} {bs : List Int} (e : EachIs (fun v b => ∃ as, Reads s.heap v (.int b) as) vs bs) (hu : A.units + 1 < cLine) :
    SortsAt prog w A s (dataKind s.heap (bs.map PyData.int)) vs :=
  SortsAt.data (each_map (R := fun v d => ∃ as, Reads s.heap v d as) _ e) (AllAlike.of fun b b' => rfl) (Sortable.others fun b => ⟨by simp, by simp⟩) (bound_map (bs := bs) fun b _ => by show A.units + 0 < cLine; omega)
end
end PySem.W
namespace L2
open PySem PySem.Spec PyProof.Rows PySem.W
/-- sorted(x), x a list or a tuple of things that stand for bs -/
def rSortX (K : PySem.W.Frag) {β : Type} (enc : β → PyData) (P : V → β → Prop) : List V → Hp → VK → Prop := fun vs H Q => ∃ (a : Addr) (xs : List V) (bs : List β), vs = [V.ref a] ∧ (SqL K H a xs ∨ SqT K H a xs) ∧ EachIs P xs bs ∧ (∀ v b, P v b → Dp K H v (enc b)) ∧
  ∀ ys p, EachIs P ys (bs.mergeSort (dataLe false enc)) → H p = none → Q (.ref p) (upd H p (.lst ys))
theorem each_vals {β : Type} {P : V → β → Prop} : ∀ {us : List Value} {bs : List β}, EachIs (fun u b => ∃ v, RelV v u ∧ P v b) us bs → ∃ ys, Vals ys us ∧ EachIs P ys bs
  | _, _, .nil => ⟨[], .nil, .nil⟩
  | _, _, .cons ⟨v, r, p⟩ t => by
    obtain ⟨ys, h1, h2⟩ := each_vals t
    exact ⟨v :: ys, .cons r h1, .cons p h2⟩
theorem each_join {β : Type} {P : V → β → Prop} : ∀ {xs : List V} {us : List Value} {bs : List β}, Vals xs us → EachIs P xs bs → EachIs (fun u b => ∃ v, RelV v u ∧ P v b) us bs
  | _, _, _, .nil, .nil => .nil
  | _, _, _, .cons r t, .cons p q => .cons ⟨_, r, p⟩ (each_join t q)
section
variable {X : Cx}
theorem cr_sortX {β : Type} {enc : β → PyData} {P : V → β → Prop} (hal : ∀ b b', alike (enc b) (enc b') = true)
    (hS : ∀ (A : Around) (s : Shared) (vs : List Value) (bs : List β), A.units + 1 < cLine → EachIs (fun v b => ∃ as, Reads s.heap v (enc b) as) vs bs → SortsAt X.prog X.w A s (dataKind s.heap (bs.map enc)) vs) (hu : X.A.units + 65 < cLine) : CallR X (.builtin "sorted") (rSortX X.K enc P) := by
  intro pins s σ H vs us Q I r h
  obtain ⟨a, xs, bs, rfl, hs, hp, hdp, q⟩ := h
  rw [Vals.ref1 r]
  have main : ∀ its : List Value, Vals xs its → its.length ≤ sizeLine →
      (∀ (κ : PyProof.Rows.KeyKind) (Q : Value → Shared → Prop), SortsAt X.prog X.w X.A.in1.in1 { s with heap := sortingHeap (copyHeap s.heap its) (s.heap.objs.size + 1) its } κ its → Q (.ref (s.heap.objs.size + 1)) { s with heap := sortedAll s.heap its (sortVals κ false its its).toArray } →
        wpAny (model X.prog X.w) X.A (call (.builtin "sorted") [.ref a]) Q X.xe s) →
      wpAny (model X.prog X.w) X.A (call (.builtin "sorted") [.ref a]) (fun v s1 => ∃ x H1, Inv X pins σ H1 s1 ∧ RelV x v ∧ Q x H1) X.xe s := by
    intro its rv hz go
    have e0 := each_join rv hp
    have e : EachIs (fun u b => ∃ v, RelV v u ∧ P v b) its bs := e0
    have er' : EachIs (fun u b => ∃ as, Reads (sortingHeap (copyHeap s.heap its) (s.heap.objs.size + 1) its) u (enc b) as) its bs := e0.mono fun u b ⟨v, r, p⟩ => by
      obtain ⟨as, rd⟩ := Dp.reads I (enc b) v u (hdp v b p) r
      exact ⟨as, PyProof.Rows.Reads.keeps (fun _ _ => sorting_copy_old) rd⟩
    have so := sortVals_data (R := fun u b => ∃ v, RelV v u ∧ P v b) false e er' (AllAlike.of hal)
    obtain ⟨ys, y1, y2⟩ := each_vals so
    refine go _ _ (hS _ _ _ _ (by show X.A.units + 2 + 1 < cLine; omega) er') ?_
    obtain ⟨ep, he'⟩ := PyProof.Rows.sortedAll_at s.heap its (sortVals (dataKind (sortingHeap (copyHeap s.heap its) (s.heap.objs.size + 1) its) (bs.map enc)) false its its).toArray
    have hlen : ys.length ≤ sizeLine := by
      rw [y1.length, sortVals_length false rfl]; exact hz
    exact ⟨.ref _, upd H (s.heap.objs.size + 1) (.lst ys), I.laid (t' := s.toks) (fun _ _ => PyProof.Rows.sortedAll_old) (Nat.le_succ _) ⟨hlen, _, ep, y1, he'⟩, rfl, q _ _ y2 (I.hok.fresh (Nat.le_succ _))⟩
  rcases hs with hs | hs
  · obtain ⟨its, rv, hl, hz⟩ := I.list hs
    have hz' : its.length ≤ sizeLine := by rw [← rv.length]; exact hz
    exact main its rv hz' fun κ Q S h => sorted_vals hl.isList S hz' h
  · obtain ⟨its, rv, hT, hz⟩ := I.tuple hs
    have hz' : its.length ≤ sizeLine := by rw [← rv.length]; exact hz
    exact main its rv hz' fun κ Q S h => sorted_valsT hT S hz' h
end
end L2

set_option maxRecDepth 100000
/-! GM: a small language over plain data, and what its programs mean (by what is wanted behind them) -/
namespace GM
open PySem L2

abbrev D := PyData
/-- what a slot holds: a value; an own list; a list that is lent; the script; an error -/
inductive U where
  | v (d : D) | o (xs : List D) | r (xs : List D) | s (ns : List Int) | x (c : Nat) (fs : List (Str × D))
abbrev Env := List (Option U)
inductive BOp where | add | sub | mul | fdiv | mod | pow | shl | shr | band | bor
  deriving DecidableEq
inductive COp where | lt | le | gt | ge | eq | ne | is_ | isnot | in_ | notin
  deriving DecidableEq
/-- built-in functions -/
inductive BI where | len | abs | int1 | tup1 | lst1 | sorted | sum | min1 | max1 | min2 | max2 | isi (ts : List Nat) | gcd | lcm | rngT | rngL | str1 | sset
  deriving DecidableEq
/-- methods that change a list -/
inductive MN where | append | pop | popAt | extend | insert | reverse
  deriving DecidableEq
/-- methods that read -/
inductive MD where | index
  deriving DecidableEq
inductive T where | nm (i : Nat) | tp (ts : List T)
inductive M where
  | var (i : Nat) | con (d : D) | refv (i : Nat)
  | bin (op : BOp) (a b : M) | neg (a : M)
  | cmp (op : COp) (a b : M) | chain (o1 o2 : COp) (a b c : M) | chain3 (o1 o2 o3 : COp) (a b c d : M)
  | and_ (a b : M) | or_ (a b : M) | notv (a : M) | ife (c a b : M)
  | tup (es : List M) | lst (es : List M)
  | idx (a i : M) | slc (a : M) (lo hi : Option M) | rev (a : M)
  | call (f : Nat) (as : List M) | callk (f : Nat) (as ks : List M) (perm : List Nat)
  | bi (b : BI) (as : List M)
  | mth (m : MN) (i : Nat) (as : List M) | mtd (m : MD) (i : Nat) (as : List M)
  | comp (el : M) (t : T) (it : M) (ifs : List M) (own : List Nat)
  | comp2 (el : M) (t : T) (it : M) (ifs : List M) (t2 : T) (it2 : M) (ifs2 : List M) (own : List Nat)
  | att (i k : Nat)
  | irng (as : List M) | ienum (a : M) | izip (a b : M) | irev (a : M)
/-- what an except suite says: of constants and of the error's fields -/
inductive HX where
  | con (d : D) | att (f : Str) | isx (cs : List Nat) | tup (es : List HX) | and_ (a b : HX) | or_ (a b : HX) | not_ (a : HX)
inductive HS where
  | ret (e : HX) | ite (c : HX) (a b : List HS)
inductive S where
  | asg (t : T) (e : M) | seti (i : Nat) (ix e : M) | augi (i : Nat) (ix : M) (op : BOp) (e : M) | aug (i : Nat) (op : BOp) (e : M) | par (i j : Nat) (a b : M)
  | ite (c : M) (a b : List S) | whl (c : M) (b : List S) | for_ (t : T) (it : M) (b : List S)
  | ret (e : M) | ret0 | exp (e : M) | brk | cnt | pas
  | rse (c : Nat) (ns : List Str) (as : List M) | tri (b : List S) (c : Nat) (slot : Nat) (h : List HS)

/-! slots -/
def get : Env → Nat → Option U
  | [], _ => none
  | u :: _, 0 => u
  | _ :: r, n + 1 => get r n
def put : Env → Nat → Option U → Env
  | [], _, _ => []
  | _ :: r, 0, x => x :: r
  | u :: r, n + 1, x => u :: put r n x
def puts (e0 : Env) : List Nat → Env → Env
  | [], e => e
  | i :: is, e => put (puts e0 is e) i (get e0 i)
def wipes : List Nat → Env → Env
  | [], e => e
  | i :: is, e => put (wipes is e) i none
inductive Op where | d (d : D) | var (i : Nat)
def U.fz : U → Option D
  | .v d => some d
  | .o xs => some (.list xs)
  | _ => none
def rdv (env : Env) : Op → Option D
  | .d d => some d
  | .var i => match get env i with
    | some (.v d) => some d
    | some (.o xs) => some (.list xs)
    | some (.r xs) => some (.list xs)
    | _ => none
def rdvs (env : Env) : List Op → Option (List D)
  | [] => some []
  | o :: os => match rdv env o with
    | some d => match rdvs env os with
      | some ds => some (d :: ds)
      | none => none
    | none => none
/-- a slot's value taken out of it: an own list is frozen -/
def escV (env : Env) (i : Nat) : Option (U × Env) := match get env i with
  | some (.v d) => some (.v d, env)
  | some (.o xs) => some (.v (.list xs), put env i (some (.v (.list xs))))
  | _ => none
def retV (env : Env) (i : Nat) : Option (U × Env) := match get env i with
  | some (.v d) => some (.v d, env)
  | some (.o xs) => some (.o xs, put env i none)
  | _ => none
def argU (env : Env) : Op → Option U
  | .d d => some (.v d)
  | .var i => match get env i with
    | some (.o xs) => some (.r xs)
    | some (.r xs) => some (.r xs)
    | some (.s ns) => some (.s ns)
    | _ => none
def argUs (env : Env) : List Op → Option (List U)
  | [] => some []
  | o :: os => match argU env o with
    | some d => match argUs env os with
      | some ds => some (d :: ds)
      | none => none
    | none => none
def cellOf (env : Env) (i : Nat) : Option (List D) := match get env i with
  | some (.o xs) => some xs
  | some (.r xs) => some xs
  | _ => none
def putR0 (env : Env) (i : Nat) : U → Env
  | .r xs => match get env i with
    | some (.o _) => put env i (some (.o xs))
    | some (.r _) => put env i (some (.r xs))
    | _ => env
  | _ => env
/-- .. in one go -/
def updE : Env → Nat → (Option U → Option U) → Env
  | [], _, _ => []
  | u :: r, 0, f => f u :: r
  | u :: r, n + 1, f => u :: updE r n f
def putF (xs : List D) : Option U → Option U
  | some (.o _) => some (.o xs)
  | some (.r _) => some (.r xs)
  | w => w
def putR (env : Env) (i : Nat) : U → Env
  | .r xs => updE env i (putF xs)
  | _ => env
theorem updE_eq (xs : List D) : ∀ (env : Env) (i : Nat), updE env i (putF xs) = match get env i with
    | some (.o _) => put env i (some (.o xs))
    | some (.r _) => put env i (some (.r xs))
    | _ => env
  | [], _ => rfl
  | u :: r, 0 => by
    show putF xs u :: r = _
    cases u with
    | none => rfl
    | some w => cases w <;> rfl
  | u :: r, i + 1 => by
    have ih := updE_eq xs r i
    show u :: updE r i (putF xs) = _
    rw [ih]
    show _ = match get r i with
    | some (.o _) => u :: put r i (some (.o xs))
    | some (.r _) => u :: put r i (some (.r xs))
    | _ => u :: r
    cases get r i with
    | none => rfl
    | some w => cases w <;> rfl
theorem putR_eq (env : Env) (i : Nat) (u : U) : putR env i u = putR0 env i u := by
  cases u <;> first | rfl | exact updE_eq _ _ _
def wb : Env → List Op → List U → Env
  | env, .var i :: os, u :: us => wb (putR env i u) os us
  | env, .d _ :: os, _ :: us => wb env os us
  | env, _, _ => env
def varsOf : List Op → List Nat
  | [] => []
  | .var i :: os => i :: varsOf os
  | .d _ :: os => varsOf os
def nodupB : List Nat → Bool
  | [] => true
  | i :: is => !(is.contains i) && nodupB is
def asgOk (env : Env) (i : Nat) : Prop := match get env i with
  | some (.r _) => False
  | some (.s _) => False
  | some (.x _ _) => False
  | _ => True
def storable : U → Prop
  | .v _ => True
  | .o _ => True
  | _ => False
/-- the slot holds no own thing -/
def plainAt (env : Env) (i : Nat) : Prop := match get env i with
  | none => True
  | some (.v _) => True
  | _ => False
def plainAll (env : Env) : List Nat → Prop
  | [] => True
  | i :: is => plainAt env i ∧ plainAll env is

/-! the points where a run waits for a proof -/
@[irreducible] def optP {α : Type} (o : Option α) (Q : α → Prop) : Prop := ∃ a, o = some a ∧ Q a
@[irreducible] def brP (b : Bool) (P Q : Prop) : Prop := (b = true → P) ∧ (b = false → Q)
@[irreducible] def ckP (c : Prop) (Q : Prop) : Prop := c ∧ Q
@[irreducible] def envP (e : Env) (Q : Env → Prop) : Prop := Q e
theorem envP_of {e e' : Env} {Q : Env → Prop} (h : e = e') (q : Q e') : envP e Q := by unfold envP; rw [h]; exact q
theorem envP_get {e : Env} {Q : Env → Prop} (h : envP e Q) : Q e := by unfold envP at h; exact h
theorem optP_of {α : Type} {o : Option α} {Q : α → Prop} {a : α} (h : o = some a) (q : Q a) : optP o Q := by unfold optP; exact ⟨a, h, q⟩
theorem optP_get {α : Type} {o : Option α} {Q : α → Prop} (h : optP o Q) : ∃ a, o = some a ∧ Q a := by unfold optP at h; exact h
theorem brP_of {b : Bool} {P Q : Prop} (h1 : b = true → P) (h2 : b = false → Q) : brP b P Q := by unfold brP; exact ⟨h1, h2⟩
theorem brP_get {b : Bool} {P Q : Prop} (h : brP b P Q) : (b = true → P) ∧ (b = false → Q) := by unfold brP at h; exact h
theorem brP_t {b : Bool} {P Q : Prop} (e : b = true) (h1 : P) : brP b P Q := brP_of (fun _ => h1) (fun z => by rw [e] at z; cases z)
theorem brP_f {b : Bool} {P Q : Prop} (e : b = false) (h1 : Q) : brP b P Q := brP_of (fun z => by rw [e] at z; cases z) (fun _ => h1)
theorem ckP_of {c Q : Prop} (h : c) (q : Q) : ckP c Q := by unfold ckP; exact ⟨h, q⟩
theorem ckP_get {c Q : Prop} (h : ckP c Q) : c ∧ Q := by unfold ckP at h; exact h

/-! plain operations; what each asks besides the kinds -/
def LIM : Nat := 16777216
def cutL {α : Type} (xs : List α) (lo hi : Option Int) : List α := (xs.drop (HT.sIx xs.length 0 lo)).take (HT.sIx xs.length xs.length hi - HT.sIx xs.length 0 lo)
/-- the item at i, from behind if i is below 0 -/
def atD {α : Type} (xs : List α) : Int → Option α
  | .ofNat n => xs[n]?
  | .negSucc n => if n < xs.length then xs[xs.length - (n + 1)]? else none
def mulC (i j : Int) : Prop := ((-(2 ^ 64) < i ∧ i < 2 ^ 64) ∨ (-(2 ^ 64) < j ∧ j < 2 ^ 64)) ∨ CMulW i j
def divC (j : Int) : Prop := 0 < j ∧ (j < 1073741824 ∨ j.natAbs.log2 < 9000)
def binD : BOp → D → D → Option U
  | .add, .int i, .int j => some (.v (.int (i + j)))
  | .add, .str x, .str y => some (.v (.str (x ++ y)))
  | .add, .tuple xs, .tuple ys => some (.v (.tuple (xs ++ ys)))
  | .add, .list xs, .list ys => some (.o (xs ++ ys))
  | .sub, .int i, .int j => some (.v (.int (i - j)))
  | .mul, .int i, .int j => some (.v (.int (i * j)))
  | .mul, .list xs, .int k => some (.o (List.replicate k.toNat xs).flatten)
  | .mul, .tuple xs, .int k => some (.v (.tuple (List.replicate k.toNat xs).flatten))
  | .fdiv, .int i, .int j => some (.v (.int (i / j)))
  | .mod, .int i, .int j => some (.v (.int (i % j)))
  | .pow, .int i, .int j => some (.v (.int (i ^ j.toNat)))
  | .shl, .int i, .int j => some (.v (.int (i * 2 ^ j.toNat)))
  | .shr, .int i, .int j => some (.v (.int (i / 2 ^ j.toNat)))
  | .band, .int i, .int j => some (.v (.int (Builtin.bitAnd i j)))
  | .bor, .int i, .int j => some (.v (.int (Builtin.bitOr i j)))
  | _, _, _ => none
def powC (i j : Int) : Prop := 0 ≤ j ∧ j ≤ 1000000 ∧ i.natAbs < 2 ^ 64
def binC : BOp → D → D → Prop
  | .add, .str x, .str y => x.length + y.length ≤ LIM
  | .add, .tuple xs, .tuple ys => xs.length + ys.length ≤ LIM
  | .add, .list xs, .list ys => xs.length + ys.length ≤ LIM
  | .mul, .int i, .int j => mulC i j
  | .mul, .list xs, .int k => -(2 ^ 63) ≤ k ∧ k < 2 ^ 63 ∧ xs.length * k.toNat ≤ LIM
  | .mul, .tuple xs, .int k => xs.length ≤ 1000 ∧ k ≤ 1000 ∧ 1 ≤ k
  | .fdiv, .int _, .int j => divC j
  | .mod, .int _, .int j => 0 < j
  | .pow, .int i, .int j => powC i j
  | .shl, .int i, .int j => powC i j
  | .shr, .int _, .int j => 0 ≤ j
  | _, _, _ => True
def negD : D → Option D
  | .int i => some (.int (-i))
  | _ => none
def truD : D → Option Bool
  | .none => some false
  | .bool b => some b
  | .int i => some (i != 0)
  | .str x => some (x.length != 0)
  | .list xs => some (!xs.isEmpty)
  | .tuple xs => some (!xs.isEmpty)
  | _ => none
def truC : D → Prop
  | .str x => x.length ≤ LIM
  | _ => True
def flatD : D → Bool
  | .none => true
  | .bool _ => true
  | .int _ => true
  | .str _ => true
  | _ => false
def ltB (i j : Int) : Bool := decide (i < j)
def leB (i j : Int) : Bool := decide (i ≤ j)
def intsD : List D → Option (List Int)
  | [] => some []
  | .int i :: ds => match intsD ds with
    | some is => some (i :: is)
    | none => none
  | _ :: _ => none
def isN : D → Bool
  | .none => true
  | _ => false
def cmpD : COp → D → D → Option Bool
  | .lt, .int i, .int j => some (ltB i j)
  | .le, .int i, .int j => some (leB i j)
  | .gt, .int i, .int j => some (ltB j i)
  | .ge, .int i, .int j => some (leB j i)
  | .lt, .tuple xs, .tuple ys => match intsD xs, intsD ys with
    | some ns, some ms => some (HT.lexLt ns ms)
    | _, _ => none
  | .eq, x, y => some (x.eqv y)
  | .ne, x, y => some (!x.eqv y)
  | .is_, x, .none => some (isN x)
  | .isnot, x, .none => some (!isN x)
  | .is_, .bool a, .bool b => some (a == b)
  | .isnot, .bool a, .bool b => some (!(a == b))
  | .in_, x, .list ys => some (ys.any fun y => y.eqv x)
  | .in_, x, .tuple ys => some (ys.any fun y => y.eqv x)
  | .notin, x, .list ys => some (!(ys.any fun y => y.eqv x))
  | .notin, x, .tuple ys => some (!(ys.any fun y => y.eqv x))
  | _, _, _ => none
def shapedP (d : D) : Prop := SeqAt.shaped d = true
def cmpC : COp → D → D → Prop
  | .eq, x, y => shapedP x ∧ shapedP y
  | .ne, x, y => shapedP x ∧ shapedP y
  | .in_, x, .list ys => shapedP x ∧ shapedP (.list ys)
  | .in_, x, .tuple ys => shapedP x ∧ shapedP (.tuple ys)
  | .notin, x, .list ys => shapedP x ∧ shapedP (.list ys)
  | .notin, x, .tuple ys => shapedP x ∧ shapedP (.tuple ys)
  | _, _, _ => True
def idxD : D → D → Option D
  | .list xs, .int i => atD xs i
  | .tuple xs, .int i => atD xs i
  | _, _ => none
def slcD : D → Option Int → Option Int → Option U
  | .list xs, lo, hi => some (.o (cutL xs lo hi))
  | .tuple xs, lo, hi => some (.v (.tuple (cutL xs lo hi)))
  | _, _, _ => none
def revD : D → Option U
  | .list xs => some (.o xs.reverse)
  | .tuple xs => some (.v (.tuple xs.reverse))
  | _ => none
def intD : D → Option Int
  | .int i => some i
  | _ => none
/-- the built-in types by number: int, bool, str, tuple, list -/
def tyOf : D → Option Nat
  | .int _ => some 0
  | .bool _ => some 1
  | .str _ => some 2
  | .tuple _ => some 3
  | .list _ => some 4
  | .none => some 5
  | _ => none
def isiB (k : Nat) (t : Nat) : Bool := k == t || (k == 1 && t == 0)
def maxI : List Int → Int
  | [] => 0
  | [x] => x
  | x :: y :: r => max x (maxI (y :: r))
def minI : List Int → Int
  | [] => 0
  | [x] => x
  | x :: y :: r => min x (minI (y :: r))
def seqD : D → Option (List D)
  | .list xs => some xs
  | .tuple xs => some xs
  | _ => none
def D_pair (p : D × Nat) : D := .tuple [.int p.2, p.1]
def isL : D → Bool
  | .list _ => true
  | _ => false
def rngI (lo : Int) (n : Nat) : List D := (List.range n).map fun (k : Nat) => .int (lo + (k : Int))
def sortI (xs : List Int) : List Int := xs.mergeSort (fun a b => decide (a ≤ b))
/-- tuples of whole numbers, sorted as rows -/
def tupsD : List D → Option (List (List Int))
  | [] => some []
  | .tuple x :: xs => match intsD x with
    | some n => match tupsD xs with
      | some ns => some (n :: ns)
      | none => none
    | none => none
  | _ :: _ => none
def tupI (ns : List Int) : D := .tuple (ns.map .int)
def leL : List Int → List Int → Bool
  | [], _ => true
  | _ :: _, [] => false
  | x :: xs, y :: ys => if x = y then leL xs ys else decide (x < y)
def insT (x : List Int) : List (List Int) → List (List Int)
  | [] => [x]
  | y :: ys => if leL x y = true then x :: y :: ys else y :: insT x ys
def sortT : List (List Int) → List (List Int)
  | [] => []
  | x :: xs => insT x (sortT xs)
def biD : BI → List D → Option U
  | .len, [.list xs] => some (.v (.int xs.length))
  | .len, [.tuple xs] => some (.v (.int xs.length))
  | .len, [.str x] => some (.v (.int x.length))
  | .abs, [.int i] => some (.v (.int (if i < 0 then -i else i)))
  | .int1, [.int i] => some (.v (.int i))
  | .int1, [.bool b] => some (.v (.int (if b then 1 else 0)))
  | .tup1, [.list xs] => some (.v (.tuple xs))
  | .tup1, [.tuple xs] => some (.v (.tuple xs))
  | .lst1, [.list xs] => some (.o xs)
  | .lst1, [.tuple xs] => some (.o xs)
  | .sorted, [x] => match seqD x with
    | some xs => match intsD xs with
      | some ns => some (.o ((sortI ns).map .int))
      | none => match tupsD xs with
        | some ts => some (.o ((sortT ts).map tupI))
        | none => none
    | none => none
  | .sum, [x] => match seqD x with
    | some xs => match intsD xs with
      | some ns => some (.v (.int ns.sum))
      | none => none
    | none => none
  | .max1, [x] => match seqD x with
    | some xs => match intsD xs with
      | some ns => some (.v (.int (maxI ns)))
      | none => none
    | none => none
  | .min1, [x] => match seqD x with
    | some xs => match intsD xs with
      | some ns => some (.v (.int (minI ns)))
      | none => none
    | none => none
  | .max2, [.int i, .int j] => some (.v (.int (if j > i then j else i)))
  | .min2, [.int i, .int j] => some (.v (.int (if j < i then j else i)))
  | .isi ts, [x] => match tyOf x with
    | some k => some (.v (.bool (ts.any (isiB k))))
    | none => none
  | .gcd, [.int i, .int j] => some (.v (.int (Nat.gcd i.natAbs j.natAbs)))
  | .lcm, [.int i, .int j] => some (.v (.int (Nat.lcm i.natAbs j.natAbs)))
  | .str1, [.int i] => some (.v (.str (Str.ofString (toString i))))
  | .sset, [x] => match seqD x with
    | some xs => match intsD xs with
      | some ns => some (.o ((ssI ns).map .int))
      | none => none
    | none => none
  | .rngT, [.int n] => some (.v (.tuple (rngI 0 n.toNat)))
  | .rngT, [.int a, .int b] => some (.v (.tuple (rngI a (b - a).toNat)))
  | .rngL, [.int n] => some (.o (rngI 0 n.toNat))
  | .rngL, [.int a, .int b] => some (.o (rngI a (b - a).toNat))
  | _, _ => none
def biC : BI → List D → Prop
  | .max1, [.list xs] => 0 < xs.length
  | .min1, [.list xs] => 0 < xs.length
  | .max1, [.tuple xs] => 0 < xs.length
  | .min1, [.tuple xs] => 0 < xs.length
  | .sset, [.tuple _] => False
  | .sset, [.list xs] => xs.length < 64
  | .str1, [.int i] => i.natAbs.log2 < 1920
  | .rngT, [.int n] => 0 ≤ n ∧ n ≤ LIM
  | .rngL, [.int n] => 0 ≤ n ∧ n ≤ LIM
  | .rngT, [.int a, .int b] => 0 ≤ a ∧ a ≤ LIM ∧ 0 ≤ b ∧ b ≤ LIM
  | .rngL, [.int a, .int b] => 0 ≤ a ∧ a ≤ LIM ∧ 0 ≤ b ∧ b ≤ LIM
  | .lcm, [.int i, .int j] => i.natAbs.log2 < 9000 ∧ j.natAbs.log2 < 9000
  | .len, [.str x] => x.length ≤ LIM
  | _, _ => True
/-- a list's method: the value and the new list -/
def mthD : MN → List D → List D → Option (D × List D)
  | .append, xs, [y] => some (.none, xs ++ [y])
  | .pop, xs, [] => match xs.getLast? with
    | some y => some (y, xs.dropLast)
    | none => none
  | .popAt, xs, [.int i] => match atD xs i with
    | some y => some (y, xs.eraseIdx (if i < 0 then (i + xs.length).toNat else i.toNat))
    | none => none
  | .extend, xs, [.list ys] => some (.none, xs ++ ys)
  | .reverse, xs, [] => some (.none, xs.reverse)
  | _, _, _ => none
def mthC : MN → List D → List D → Prop
  | .append, xs, _ => xs.length < LIM
  | .extend, xs, [.list ys] => xs.length + ys.length ≤ LIM
  | _, _, _ => True
def mdTy : MD → D → Bool
  | .index, .list _ => true
  | _, _ => false
def idxI (k : Int) : List Int → Nat → Option Nat
  | [], _ => none
  | n :: ns, j => if n = k then some j else idxI k ns (j + 1)
def mtdD : MD → D → List D → Option U
  | .index, .list xs, [.int k] => match intsD xs with
    | some ns => match idxI k ns 0 with
      | some j => some (.v (.int j))
      | none => none
    | none => none
  | _, _, _ => none
def setAt (xs : List D) (i : D) (d : D) : Option (List D) := match i with
  | .int i => match ixN xs.length i with
    | some j => some (xs.set j d)
    | none => none
  | _ => none

/-! what a def promises -/
structure EX where
  c : Nat
  fs : List (Str × D)
structure FS where
  α : Type
  args : α → List U
  pre : α → Prop
  post : α → U → List U → Prop
  exc : α → EX → List U → Prop := fun _ _ _ => False
@[irreducible] def callP (o : Option FS) (us : List U) (Qx : EX → List U → Prop) (Q : U → List U → Prop) : Prop :=
  ∃ S, o = some S ∧ ∃ a : S.α, us = S.args a ∧ S.pre a ∧ (∀ r us', S.post a r us' → Q r us') ∧ ∀ x us', S.exc a x us' → Qx x us'
theorem callP_of {o : Option FS} {us : List U} {Qx : EX → List U → Prop} {Q : U → List U → Prop} (S : FS) (h : o = some S) (a : S.α) (e : us = S.args a) (p : S.pre a)
    (q : ∀ r us', S.post a r us' → Q r us') (qx : ∀ x us', S.exc a x us' → Qx x us') : callP o us Qx Q := by unfold callP; exact ⟨S, h, a, e, p, q, qx⟩
theorem callP_get {o : Option FS} {us : List U} {Qx : EX → List U → Prop} {Q : U → List U → Prop} (h : callP o us Qx Q) :
    ∃ S, o = some S ∧ ∃ a : S.α, us = S.args a ∧ S.pre a ∧ (∀ r us', S.post a r us' → Q r us') ∧ ∀ x us', S.exc a x us' → Qx x us' := by unfold callP at h; exact h

def slotsT : Nat → T → List Nat
  | 0, _ => []
  | n + 1, t => match t with
    | .nm i => [i]
    | .tp ts => ts.flatMap (slotsT n)
/-! expressions -/
abbrev QX := EX → Env → Prop
abbrev WE := M → Env → QX → (U → Env → Prop) → Prop
def wpR (rec : WE) (m : M) (env : Env) (Qx : QX) (Q : Op → Env → Prop) : Prop := match m with
  | .var i => optP (get env i) fun _ => Q (.var i) env
  | m => rec m env Qx fun u env' => optP u.fz fun d => Q (.d d) env'
noncomputable def wpOs (rec : WE) (ms : List M) : Env → QX → (List Op → Env → Prop) → Prop :=
  List.rec (motive := fun _ => Env → QX → (List Op → Env → Prop) → Prop) (fun env _ Q => Q [] env) (fun m _ ih env Qx Q => wpR rec m env Qx fun o env1 => ih env1 Qx fun os env2 => Q (o :: os) env2) ms
theorem wpOs_cons {rec : WE} {m : M} {ms : List M} {env : Env} {Qx : QX} {Q : List Op → Env → Prop} : wpOs rec (m :: ms) env Qx Q = wpR rec m env Qx fun o env1 => wpOs rec ms env1 Qx fun os env2 => Q (o :: os) env2 := rfl
/-- values that go into a thing -/
noncomputable def wpVs (rec : WE) (ms : List M) : Env → QX → (List D → Env → Prop) → Prop :=
  List.rec (motive := fun _ => Env → QX → (List D → Env → Prop) → Prop) (fun env _ Q => Q [] env) (fun m _ ih env Qx Q => rec m env Qx fun u env1 => optP u.fz fun d => ih env1 Qx fun ds env2 => Q (d :: ds) env2) ms
def wpA1 (rec : WE) (m : M) (ih : Env → QX → (List Op → Env → Prop) → Prop) (env : Env) (Qx : QX) (Q : List Op → Env → Prop) : Prop := match m with
  | .refv i => optP (get env i) fun _ => ih env Qx fun os env2 => Q (.var i :: os) env2
  | m => rec m env Qx fun u env1 => optP u.fz fun d => ih env1 Qx fun os env2 => Q (.d d :: os) env2
noncomputable def wpAs (rec : WE) (ms : List M) : Env → QX → (List Op → Env → Prop) → Prop :=
  List.rec (motive := fun _ => Env → QX → (List Op → Env → Prop) → Prop) (fun env _ Q => Q [] env) (fun m _ ih env Qx Q => wpA1 rec m ih env Qx Q) ms
def wpT1 (rec : WE) (ih : M → Env → QX → (Bool → Env → Prop) → Prop) (m : M) (env : Env) (Qx : QX) (Q : Bool → Env → Prop) : Prop := match m with
  | .notv a => ih a env Qx fun b env1 => Q (!b) env1
  | .and_ a b => ih a env Qx fun c env1 => brP c (ih b env1 Qx Q) (Q false env1)
  | .or_ a b => ih a env Qx fun c env1 => brP c (Q true env1) (ih b env1 Qx Q)
  | m => wpR rec m env Qx fun o env1 => optP (rdv env1 o) fun d => optP (truD d) fun b => ckP (truC d) (Q b env1)
noncomputable def wpT (rec : WE) (n : Nat) : M → Env → QX → (Bool → Env → Prop) → Prop :=
  Nat.rec (motive := fun _ => M → Env → QX → (Bool → Env → Prop) → Prop) (fun _ _ _ _ => False) (fun _ ih => wpT1 rec ih) n
def wpTs (tst : M → Env → QX → (Bool → Env → Prop) → Prop) : List M → Env → QX → (Bool → Env → Prop) → Prop
  | [], env, _, Q => Q true env
  | c :: _, env, Qx, Q => tst c env Qx Q
noncomputable def bindT.go (rec : T → D → Env → (Env → Prop) → Prop) (ts : List T) : List D → Env → (Env → Prop) → Prop :=
  List.rec (motive := fun _ => List D → Env → (Env → Prop) → Prop) (fun ds env Q => match ds with | [] => Q env | _ :: _ => False)
    (fun t _ ih ds env Q => match ds with | d :: ds => rec t d env fun env1 => ih ds env1 Q | [] => False) ts
noncomputable def bindT1 (ih : T → D → Env → (Env → Prop) → Prop) (t : T) (d : D) (env : Env) (Q : Env → Prop) : Prop := match t with
  | .nm i => ckP (asgOk env i) (Q (put env i (some (.v d))))
  | .tp ts => match d with
    | .tuple ds => bindT.go ih ts ds env Q
    | _ => False
noncomputable def bindT (n : Nat) : T → D → Env → (Env → Prop) → Prop :=
  Nat.rec (motive := fun _ => T → D → Env → (Env → Prop) → Prop) (fun _ _ _ _ => False) (fun _ ih => bindT1 ih) n
noncomputable def wpI (rec : WE) (m : M) (env : Env) (Qx : QX) (Q : List D → Env → Prop) : Prop := match m with
  | .irng as => wpOs rec as env Qx fun os env1 => optP (rdvs env1 os) fun ds => match ds with
    | [.int n] => ckP (-(2 ^ 62) ≤ n ∧ n < 2 ^ 62) (Q (rngI 0 n.toNat) env1)
    | [.int a, .int b] => ckP (-(2 ^ 62) ≤ a ∧ a < 2 ^ 62 ∧ -(2 ^ 62) ≤ b ∧ b < 2 ^ 62) (Q (rngI a (b - a).toNat) env1)
    | [.int a, .int b, .int (.negSucc 0)] => ckP (-(2 ^ 62) ≤ a ∧ a < 2 ^ 62 ∧ -(2 ^ 62) ≤ b ∧ b < 2 ^ 62) (Q ((List.range (a - b).toNat).map fun (k : Nat) => .int (a - (k : Int))) env1)
    | _ => False
  | .ienum a => rec a env Qx fun u env1 => optP (u.fz.bind seqD) fun ds => Q (ds.zipIdx.map D_pair) env1
  | .izip a b => rec a env Qx fun u env1 => optP u.fz fun d => optP (seqD d) fun ds => rec b env1 Qx fun w env2 => optP w.fz fun e => optP (seqD e) fun es => ckP (isL d = isL e) (Q ((ds.zip es).map fun p => .tuple [p.1, p.2]) env2)
  | .irev a => rec a env Qx fun u env1 => optP (u.fz.bind seqD) fun ds => Q ds.reverse env1
  | m => rec m env Qx fun u env1 => optP (u.fz.bind seqD) fun ds => Q ds env1
/-- a comprehension's items one after another -/
def compL (step : D → Env → (List D → Env → Prop) → Prop) : List D → Env → List D → (List D → Env → Prop) → Prop
  | [], env, acc, Q => Q acc env
  | x :: xs, env, acc, Q => step x env fun ds env1 => compL step xs env1 (acc ++ ds) Q
def forL (step : D → Env → (Env → Prop) → Prop) : List D → Env → (Env → Prop) → Prop
  | [], env, done => done env
  | x :: xs, env, done => step x env fun env1 => forL step xs env1 done
@[irreducible] def compP (step : D → Env → (List D → Env → Prop) → Prop) (xs : List D) (env : Env) (acc : List D) (Q : List D → Env → Prop) : Prop := compL step xs env acc Q
@[irreducible] def forP (step : D → Env → (Env → Prop) → Prop) (xs : List D) (env : Env) (done : Env → Prop) : Prop := forL step xs env done
def whileN (step : Env → (Env → Prop) → Prop) : Nat → Env → Prop
  | 0, _ => False
  | n + 1, env => step env (whileN step n)
@[irreducible] def whileP (step : Env → (Env → Prop) → Prop) (env : Env) : Prop := ∃ n, whileN step n env
theorem compP_nil {step : D → Env → (List D → Env → Prop) → Prop} {env : Env} {acc : List D} {Q : List D → Env → Prop} (h : Q acc env) : compP step [] env acc Q := by unfold compP; exact h
theorem compP_cons {step : D → Env → (List D → Env → Prop) → Prop} {x : D} {xs : List D} {env : Env} {acc : List D} {Q : List D → Env → Prop}
    (h : step x env fun ds env1 => compP step xs env1 (acc ++ ds) Q) : compP step (x :: xs) env acc Q := by unfold compP at h ⊢; exact h
theorem forP_nil {step : D → Env → (Env → Prop) → Prop} {env : Env} {done : Env → Prop} (h : done env) : forP step [] env done := by unfold forP; exact h
theorem forP_cons {step : D → Env → (Env → Prop) → Prop} {x : D} {xs : List D} {env : Env} {done : Env → Prop}
    (h : step x env fun env1 => forP step xs env1 done) : forP step (x :: xs) env done := by unfold forP at h ⊢; exact h
noncomputable def wpE.wpP (rec : WE) (o : Option M) (env : Env) (Qx : QX) (Q : Option Int → Env → Prop) : Prop := match o with
    | none => Q none env
    | some m => wpR rec m env Qx fun ob env1 => optP (rdv env1 ob) fun d => optP (intD d) fun i => Q (some i) env1
noncomputable def wpE.wpSl (rec : WE) (a : M) (lo hi : Option M) (env : Env) (Qx : QX) (Q : U → Env → Prop) : Prop :=
    wpR rec a env Qx fun oa env1 => wpE.wpP rec lo env1 Qx fun l env2 => wpE.wpP rec hi env2 Qx fun h env3 => optP (rdv env3 oa) fun x => optP (slcD x l h) fun r => Q r env3
noncomputable def wpE1 (Γ : Nat → Option FS) (n : Nat) (rec : WE) (m : M) (env : Env) (Qx : QX) (Q : U → Env → Prop) : Prop := match m with
  | .var i => optP (escV env i) fun p => Q p.1 p.2
  | .con d => Q (.v d) env
  | .refv _ => False
  | .bin op a b => wpR rec a env Qx fun oa env1 => wpR rec b env1 Qx fun ob env2 => optP (rdv env2 oa) fun x => optP (rdv env2 ob) fun y => optP (binD op x y) fun r => ckP (binC op x y) (Q r env2)
  | .neg a => wpR rec a env Qx fun oa env1 => optP (rdv env1 oa) fun x => optP (negD x) fun r => Q (.v r) env1
  | .cmp op a b => wpR rec a env Qx fun oa env1 => wpR rec b env1 Qx fun ob env2 => optP (rdv env2 oa) fun x => optP (rdv env2 ob) fun y => optP (cmpD op x y) fun r => ckP (cmpC op x y) (Q (.v (.bool r)) env2)
  | .chain o1 o2 a b c => wpR rec a env Qx fun oa env1 => wpR rec b env1 Qx fun ob env2 => optP (rdv env2 oa) fun x => optP (rdv env2 ob) fun y => optP (cmpD o1 x y) fun r => ckP (cmpC o1 x y)
      (brP r (wpR rec c env2 Qx fun oc env3 => optP (rdv env3 ob) fun y' => optP (rdv env3 oc) fun z => optP (cmpD o2 y' z) fun r2 => ckP (cmpC o2 y' z) (Q (.v (.bool r2)) env3)) (Q (.v (.bool false)) env2))
  | .chain3 o1 o2 o3 a b c d => wpR rec a env Qx fun oa env1 => wpR rec b env1 Qx fun ob env2 => optP (rdv env2 oa) fun x => optP (rdv env2 ob) fun y => optP (cmpD o1 x y) fun r => ckP (cmpC o1 x y)
      (brP r (wpR rec c env2 Qx fun oc env3 => optP (rdv env3 ob) fun y' => optP (rdv env3 oc) fun z => optP (cmpD o2 y' z) fun r2 => ckP (cmpC o2 y' z)
        (brP r2 (wpR rec d env3 Qx fun od env4 => optP (rdv env4 oc) fun z' => optP (rdv env4 od) fun t => optP (cmpD o3 z' t) fun r3 => ckP (cmpC o3 z' t) (Q (.v (.bool r3)) env4)) (Q (.v (.bool false)) env3))) (Q (.v (.bool false)) env2))
  | .and_ a b => rec a env Qx fun u env1 => optP u.fz fun d => optP (truD d) fun t => ckP (truC d) (brP t (rec b env1 Qx Q) (Q (.v d) env1))
  | .or_ a b => rec a env Qx fun u env1 => optP u.fz fun d => optP (truD d) fun t => ckP (truC d) (brP t (Q (.v d) env1) (rec b env1 Qx Q))
  | .notv a => wpR rec a env Qx fun oa env1 => optP (rdv env1 oa) fun d => optP (truD d) fun t => ckP (truC d) (Q (.v (.bool (!t))) env1)
  | .ife c a b => wpT rec n c env Qx fun t env1 => brP t (rec a env1 Qx Q) (rec b env1 Qx Q)
  | .tup es => wpVs rec es env Qx fun ds env1 => Q (.v (.tuple ds)) env1
  | .lst es => wpVs rec es env Qx fun ds env1 => Q (.o ds) env1
  | .idx a i => wpR rec a env Qx fun oa env1 => wpR rec i env1 Qx fun oi env2 => optP (rdv env2 oa) fun x => optP (rdv env2 oi) fun y => optP (idxD x y) fun r => Q (.v r) env2
  | .slc a lo hi => match a with
    | .var i => match get env i with
      | some (.s ns) => match lo, hi with
        | none, some (.con (.int k)) => Q (.o (cutL (ns.map .int) none (some k))) env
        | _, _ => False
      | _ => wpE.wpSl rec a lo hi env Qx Q
    | a => wpE.wpSl rec a lo hi env Qx Q
  | .rev a => wpR rec a env Qx fun oa env1 => optP (rdv env1 oa) fun x => optP (revD x) fun r => Q r env1
  | .call f as => wpAs rec as env Qx fun os env1 => optP (argUs env1 os) fun us => ckP (nodupB (varsOf os) = true) (callP (Γ f) us (fun x us' => Qx x (wb env1 os us')) fun r us' => envP (wb env1 os us') (Q r))
  | .callk f as ks perm => wpAs rec as env Qx fun os env1 => wpAs rec ks env1 Qx fun os2 env2 => optP (perm.mapM fun k => (os ++ os2)[k]?) fun os3 => optP (argUs env2 os3) fun us =>
      ckP (nodupB (varsOf os3) = true) (callP (Γ f) us (fun x us' => Qx x (wb env2 os3 us')) fun r us' => envP (wb env2 os3 us') (Q r))
  | .bi b as => wpOs rec as env Qx fun os env1 => optP (rdvs env1 os) fun ds => optP (biD b ds) fun r => ckP (biC b ds) (Q r env1)
  | .mth mn i as => optP (cellOf env i) fun _ => wpVs rec as env Qx fun ds env1 => optP (cellOf env1 i) fun xs => optP (mthD mn xs ds) fun p => ckP (mthC mn xs ds) (Q (.v p.1) (putR env1 i (.r p.2)))
  | .mtd md i as => optP (rdv env (.var i)) fun x0 => ckP (mdTy md x0 = true) (wpVs rec as env Qx fun ds env1 => optP (rdv env1 (.var i)) fun x => optP (mtdD md x ds) fun r => Q r env1)
  | .comp el t it ifs own => wpI rec it env Qx fun ds env1 => ckP (plainAll env1 own ∧ ds.length ≤ LIM) (compP
      (fun x e nx => bindT n t x e fun e1 => wpTs (wpT rec n) ifs e1 (fun _ _ => False) fun b e2 => brP b (rec el e2 (fun _ _ => False) fun u e3 => optP u.fz fun d => nx [d] (wipes own e3)) (nx [] (wipes own e2)))
      ds (wipes own env1) [] fun acc e => Q (.o acc) (puts env1 own e))
  | .comp2 el t it ifs t2 it2 ifs2 own => wpI rec it env Qx fun ds env1 => ckP (plainAll env1 own ∧ ds.length ≤ 4096) (compP
      (fun x e nx => bindT n t x e fun e1 => wpTs (wpT rec n) ifs e1 (fun _ _ => False) fun b e2 => brP b (wpI rec it2 e2 (fun _ _ => False) fun ds2 e3 => ckP (ds2.length ≤ 4096) (compP
        (fun y e' nx' => bindT n t2 y e' fun e4 => wpTs (wpT rec n) ifs2 e4 (fun _ _ => False) fun b2 e5 => brP b2 (rec el e5 (fun _ _ => False) fun u e6 => optP u.fz fun d => nx' [d] (wipes (slotsT n t2) e6)) (nx' [] (wipes (slotsT n t2) e5)))
        ds2 (wipes (slotsT n t2) e3) [] fun acc2 e7 => nx acc2 (wipes own e7))) (nx [] (wipes own e2)))
      ds (wipes own env1) [] fun acc e => Q (.o acc) (puts env1 own e))
  | .att i k => match get env i with
    | _ => False
  | .irng _ => False
  | .ienum _ => False
  | .izip _ _ => False
  | .irev _ => False
noncomputable def wpE (Γ : Nat → Option FS) (n : Nat) : WE :=
  Nat.rec (motive := fun _ => WE) (fun _ _ _ _ => False) (fun n ih => wpE1 Γ n ih) n
theorem wpE_succ {Γ : Nat → Option FS} {n : Nat} : wpE Γ (n + 1) = wpE1 Γ n (wpE Γ n) := rfl

/-! statements -/
structure K where
  nx : Env → Prop
  rt : U → Env → Prop
  bk : Env → Prop
  ct : Env → Prop
  ex : QX
noncomputable def wpSs (rec : S → Env → K → Prop) (ss : List S) : Env → K → Prop :=
  List.rec (motive := fun _ => Env → K → Prop) (fun env k => k.nx env) (fun s _ ih env k => rec s env { k with nx := fun env1 => ih env1 k }) ss
/-- the errors by number: 0 is the base of all others -/
def subX (c d : Nat) : Bool := c == d || d == 0
mutual
def hE : HX → EX → Option D
  | .con d, _ => some d
  | .att f, x => x.fs.lookup f
  | .isx cs, x => some (.bool (cs.any fun d => subX x.c d))
  | .tup es, x => match hEs es x with
    | some ds => some (.tuple ds)
    | none => none
  | .and_ a b, x => match hE a x with
    | some (.bool true) => hE b x
    | some (.bool false) => some (.bool false)
    | _ => none
  | .or_ a b, x => match hE a x with
    | some (.bool true) => some (.bool true)
    | some (.bool false) => hE b x
    | _ => none
  | .not_ a, x => match hE a x with
    | some (.bool t) => some (.bool (!t))
    | _ => none
def hEs : List HX → EX → Option (List D)
  | [], _ => some []
  | e :: es, x => match hE e x with
    | some d => match hEs es x with
      | some ds => some (d :: ds)
      | none => none
    | none => none
end
mutual
def hRun1 : HS → EX → Option (Option D)
  | .ret e, x => match hE e x with
    | some d => some (some d)
    | none => none
  | .ite c a b, x => match hE c x with
    | some (.bool true) => hRun a x
    | some (.bool false) => hRun b x
    | _ => none
def hRun : List HS → EX → Option (Option D)
  | [], _ => some none
  | s :: ss, x => match hRun1 s x with
    | some none => hRun ss x
    | r => r
end
def putO (env : Env) (o : Option Nat) (u : Option U) : Env := match o with
  | none => env
  | some i => put env i u
noncomputable def wpS1 (Γ : Nat → Option FS) (n : Nat) (rec : S → Env → K → Prop) (s : S) (env : Env) (k : K) : Prop := match s with
  | .asg t e => match t with
    | .nm i => wpE Γ n e env k.ex fun u env1 => ckP (asgOk env1 i ∧ storable u) (envP (put env1 i (some u)) k.nx)
    | t => wpE Γ n e env k.ex fun u env1 => optP u.fz fun d => bindT n t d env1 k.nx
  | .seti i ix e => wpE Γ n e env k.ex fun u env1 => optP u.fz fun d => optP (get env1 i) fun _ => wpR (wpE Γ n) ix env1 k.ex fun oi env2 => optP (rdv env2 oi) fun y => optP (cellOf env2 i) fun xs => optP (setAt xs y d) fun ys => k.nx (putR env2 i (.r ys))
  | .augi i ix op e => optP (get env i) fun _ => wpR (wpE Γ n) ix env k.ex fun oi env1 => optP (rdv env1 oi) fun y => optP (cellOf env1 i) fun xs => optP (idxD (.list xs) y) fun x =>
      wpR (wpE Γ n) e env1 k.ex fun oe env2 => optP (rdv env2 oe) fun z => optP (rdv env2 oi) fun y2 => optP (intD x) fun a => optP (intD z) fun b => optP (binD op (.int a) (.int b)) fun r => optP r.fz fun d => optP (cellOf env2 i) fun xs2 => optP (setAt xs2 y2 d) fun ys => k.nx (putR env2 i (.r ys))
  | .aug i op e => optP (get env i) fun _ => wpR (wpE Γ n) e env k.ex fun oe env1 => optP (rdv env1 (.var i)) fun x => optP (rdv env1 oe) fun z => optP (intD x) fun a => optP (intD z) fun b => optP (binD op (.int a) (.int b)) fun r => ckP (asgOk env1 i) (k.nx (put env1 i (some r)))
  | .par i j a b => wpVs (wpE Γ n) [a, b] env k.ex fun ds env1 => match ds with
    | [x, y] => ckP (asgOk env1 i ∧ asgOk env1 j) (k.nx (put (put env1 i (some (.v x))) j (some (.v y))))
    | _ => False
  | .ite c a b => wpT (wpE Γ n) n c env k.ex fun t env1 => brP t (wpSs rec a env1 k) (wpSs rec b env1 k)
  | .whl c b => whileP (fun e nx => wpT (wpE Γ n) n c e k.ex fun t e1 => brP t (wpSs rec b e1 { k with nx := nx, ct := nx, bk := k.nx }) (k.nx e1)) env
  | .for_ t it b => wpI (wpE Γ n) it env k.ex fun ds env1 => forP (fun x e nx => bindT n t x e fun e1 => wpSs rec b e1 { k with nx := nx, ct := nx, bk := k.nx }) ds env1 k.nx
  | .ret e => match e with
    | .var i => optP (retV env i) fun p => k.rt p.1 p.2
    | e => wpE Γ n e env k.ex fun u env1 => ckP (storable u) (k.rt u env1)
  | .ret0 => k.rt (.v .none) env
  | .exp e => wpE Γ n e env k.ex fun _ env1 => k.nx env1
  | .brk => k.bk env
  | .cnt => k.ct env
  | .pas => k.nx env
  | .rse c ns as => wpVs (wpE Γ n) as env k.ex fun ds env1 => k.ex ⟨c, ns.zip ds⟩ env1
  | .tri b c slot h => wpSs rec b env { k with ex := fun x env1 => brP (subX x.c c) (optP (hRun h x) fun r => ckP (plainAt env1 slot) (match r with | some d => k.rt (.v d) (put env1 slot none) | none => k.nx (put env1 slot none))) (k.ex x env1) }
noncomputable def wpS (Γ : Nat → Option FS) (n : Nat) : S → Env → K → Prop :=
  Nat.rec (motive := fun _ => S → Env → K → Prop) (fun _ _ _ => False) (fun n ih => wpS1 Γ n ih) n
theorem wpS_succ {Γ : Nat → Option FS} {n : Nat} : wpS Γ (n + 1) = wpS1 Γ n (wpS Γ n) := rfl
/-- what the lent things hold at the end -/
def fin : List U → Env → List U
  | [], _ => []
  | .r xs :: us, some (.r ys) :: env => .r ys :: fin us env
  | u :: us, _ :: env => u :: fin us env
  | u :: us, [] => u :: fin us []
def start (n : Nat) (us : List U) : Env := us.map some ++ List.replicate (n - us.length) none
noncomputable def wpF (Γ : Nat → Option FS) (n : Nat) (body : List S) (nloc : Nat) (us : List U) (post : U → List U → Prop) (exc : EX → List U → Prop) : Prop :=
  wpSs (wpS Γ n) body (start nloc us) { nx := fun env => post (.v .none) (fin us env), rt := fun u env => post u (fin us env), bk := fun _ => False, ct := fun _ => False, ex := fun x env => exc x (fin us env) }
end GM

set_option maxRecDepth 100000
/-! GM: how plain data lie in the heap -/
namespace GM
open PySem PySem.Spec PyProof.Rows L2

mutual
/-- the value v stands for d; all its parts are frozen in F -/
inductive Rep (F : Hp) : V → D → Prop
  | non : Rep F .non .none
  | bl (b : Bool) : Rep F (.bl b) (.bool b)
  | int (i : Int) : Rep F (.int i) (.int i)
  | str (x : Str) : Rep F (.str x) (.str x)
  | tup {a : Addr} {xs : List V} {ds : List D} (h : F a = some (.tup xs)) (r : Reps F xs ds) : Rep F (.ref a) (.tuple ds)
  | lst {a : Addr} {xs : List V} {ds : List D} (h : F a = some (.lst xs)) (r : Reps F xs ds) : Rep F (.ref a) (.list ds)
inductive Reps (F : Hp) : List V → List D → Prop
  | nil : Reps F [] []
  | cons {v : V} {vs : List V} {d : D} {ds : List D} (h : Rep F v d) (t : Reps F vs ds) : Reps F (v :: vs) (d :: ds)
end
theorem same_refl {H : Hp} : Same H H := fun _ _ h => h
theorem same_upd {H : Hp} {p : Addr} {o : HO} (h : H p = none) : Same H (upd H p o) := fun b x e => by
  rw [upd_ne (ne_of_none e h)]; exact e
mutual
theorem Rep.mono {F F' : Hp} (s : Same F F') : ∀ {v : V} {d : D}, Rep F v d → Rep F' v d
  | _, _, .non => .non
  | _, _, .bl b => .bl b
  | _, _, .int i => .int i
  | _, _, .str x => .str x
  | _, _, .tup h r => .tup (s _ _ h) (Reps.mono s r)
  | _, _, .lst h r => .lst (s _ _ h) (Reps.mono s r)
theorem Reps.mono {F F' : Hp} (s : Same F F') : ∀ {vs : List V} {ds : List D}, Reps F vs ds → Reps F' vs ds
  | _, _, .nil => .nil
  | _, _, .cons h t => .cons (Rep.mono s h) (Reps.mono s t)
end
theorem Reps.length {F : Hp} : ∀ {vs : List V} {ds : List D}, Reps F vs ds → vs.length = ds.length
  | _, _, .nil => rfl
  | _, _, .cons _ t => by rw [List.length_cons, List.length_cons, Reps.length t]
theorem Reps.get {F : Hp} : ∀ {vs : List V} {ds : List D} {i : Nat} {d : D}, Reps F vs ds → ds[i]? = some d → ∃ v, vs[i]? = some v ∧ Rep F v d
  | _, _, _, _, .nil, e => by simp at e
  | _, _, 0, _, .cons h _, e => by simp at e; subst e; exact ⟨_, rfl, h⟩
  | _, _, i + 1, d, .cons _ t, e => by
    obtain ⟨v, h1, h2⟩ := Reps.get (i := i) (d := d) t (by simpa using e)
    exact ⟨v, by simpa using h1, h2⟩
theorem Reps.getV {F : Hp} : ∀ {vs : List V} {ds : List D} {i : Nat} {v : V}, Reps F vs ds → vs[i]? = some v → ∃ d, ds[i]? = some d ∧ Rep F v d
  | _, _, _, _, .nil, e => by simp at e
  | _, _, 0, _, .cons h _, e => by simp at e; subst e; exact ⟨_, rfl, h⟩
  | _, _, i + 1, v, .cons _ t, e => by
    obtain ⟨d, h1, h2⟩ := Reps.getV (i := i) (v := v) t (by simpa using e)
    exact ⟨d, by simpa using h1, h2⟩
theorem Reps.append {F : Hp} : ∀ {vs ws : List V} {ds es : List D}, Reps F vs ds → Reps F ws es → Reps F (vs ++ ws) (ds ++ es)
  | _, _, _, _, .nil, s => s
  | _, _, _, _, .cons h t, s => .cons h (Reps.append t s)
theorem Reps.one {F : Hp} {v : V} {d : D} (h : Rep F v d) : Reps F [v] [d] := .cons h .nil
theorem Reps.take {F : Hp} : ∀ {vs : List V} {ds : List D} (n : Nat), Reps F vs ds → Reps F (vs.take n) (ds.take n)
  | _, _, 0, _ => .nil
  | _, _, _ + 1, .nil => .nil
  | _, _, n + 1, .cons h t => .cons h (Reps.take n t)
theorem Reps.drop {F : Hp} : ∀ {vs : List V} {ds : List D} (n : Nat), Reps F vs ds → Reps F (vs.drop n) (ds.drop n)
  | _, _, 0, r => r
  | _, _, _ + 1, .nil => .nil
  | _, _, n + 1, .cons _ t => Reps.drop n t
theorem Reps.set {F : Hp} {v : V} {d : D} (h : Rep F v d) : ∀ {vs : List V} {ds : List D} (i : Nat), Reps F vs ds → Reps F (vs.set i v) (ds.set i d)
  | _, _, _, .nil => .nil
  | _, _, 0, .cons _ t => .cons h t
  | _, _, i + 1, .cons q t => .cons q (Reps.set h i t)
theorem Reps.erase {F : Hp} : ∀ {vs : List V} {ds : List D} (i : Nat), Reps F vs ds → Reps F (vs.eraseIdx i) (ds.eraseIdx i)
  | _, _, _, .nil => .nil
  | _, _, 0, .cons _ t => t
  | _, _, i + 1, .cons q t => .cons q (Reps.erase i t)
theorem Reps.reverse {F : Hp} : ∀ {vs : List V} {ds : List D}, Reps F vs ds → Reps F vs.reverse ds.reverse
  | _, _, .nil => .nil
  | _, _, .cons h t => by rw [List.reverse_cons, List.reverse_cons]; exact (Reps.reverse t).append (.one h)
theorem Reps.dropLast {F : Hp} {vs : List V} {ds : List D} (r : Reps F vs ds) : Reps F vs.dropLast ds.dropLast := by
  rw [List.dropLast_eq_take, List.dropLast_eq_take, r.length]; exact r.take _
theorem Reps.rep {F : Hp} {vs : List V} {ds : List D} (r : Reps F vs ds) : ∀ k : Nat, Reps F (List.replicate k vs).flatten (List.replicate k ds).flatten
  | 0 => .nil
  | k + 1 => by rw [List.replicate_succ, List.replicate_succ, List.flatten_cons, List.flatten_cons]; exact r.append (Reps.rep r k)
theorem Reps.nil_iff {F : Hp} {vs : List V} {ds : List D} (r : Reps F vs ds) : vs = [] ↔ ds = [] := by
  cases r <;> simp
theorem Reps.isEmpty {F : Hp} {vs : List V} {ds : List D} (r : Reps F vs ds) : vs.isEmpty = ds.isEmpty := by cases r <;> rfl
theorem Reps.cut {F : Hp} {vs : List V} {ds : List D} (r : Reps F vs ds) (lo hi : Option Int) : Reps F (cutV vs lo hi) (cutL ds lo hi) := by
  unfold cutV cutL; rw [r.length]; exact (r.drop _).take _
theorem cutV_eq (vs : List V) (lo hi : Option Int) : cutV vs lo hi = cutL vs lo hi := rfl
theorem Reps.ints {F : Hp} : ∀ {vs : List V} {ds : List D} {ns : List Int}, Reps F vs ds → intsD ds = some ns → vs = ns.map V.int
  | _, _, _, .nil, e => by simp [intsD] at e; subst e; rfl
  | _, _, ns, .cons (d := d) (ds := ds) h t, e => by
    cases d with
    | int i =>
      cases h
      simp only [intsD] at e
      cases q : intsD ds with
      | none => rw [q] at e; cases e
      | some is => rw [q] at e; cases e; rw [Reps.ints t q]; rfl
    | _ => simp [intsD] at e
theorem Reps.of_ints {F : Hp} : ∀ ns : List Int, Reps F (ns.map V.int) (ns.map PyData.int)
  | [] => .nil
  | n :: ns => .cons (.int n) (Reps.of_ints ns)
/-- what may be read as d: it is d, or an own list of these items -/
inductive Rd (F H : Hp) : V → D → Prop
  | v {v : V} {d : D} (h : Rep F v d) : Rd F H v d
  | l {a : Addr} {vs : List V} {xs : List D} (h : H a = some (.lst vs)) (r : Reps F vs xs) : Rd F H (.ref a) (.list xs)
section
variable {F H : Hp} {v : V}
theorem Rd.int {i : Int} (h : Rd F H v (.int i)) : v = .int i := by cases h with | v h => cases h; rfl
theorem Rd.bl {b : Bool} (h : Rd F H v (.bool b)) : v = .bl b := by cases h with | v h => cases h; rfl
theorem Rd.str {x : Str} (h : Rd F H v (.str x)) : v = .str x := by cases h with | v h => cases h; rfl
theorem Rd.non (h : Rd F H v .none) : v = .non := by cases h with | v h => cases h; rfl
theorem Rd.lst {xs : List D} (h : Rd F H v (.list xs)) (s : Same F H) : ∃ a vs, v = .ref a ∧ H a = some (.lst vs) ∧ Reps F vs xs := by
  cases h with
  | v h => cases h with | lst e r => exact ⟨_, _, rfl, s _ _ e, r⟩
  | l e r => exact ⟨_, _, rfl, e, r⟩
theorem Rd.tup {xs : List D} (h : Rd F H v (.tuple xs)) (s : Same F H) : ∃ a vs, v = .ref a ∧ H a = some (.tup vs) ∧ F a = some (.tup vs) ∧ Reps F vs xs := by
  cases h with
  | v h => cases h with | tup e r => exact ⟨_, _, rfl, s _ _ e, e, r⟩
end
mutual
theorem Rep.dp {K : PySem.W.Frag} {F H : Hp} (s : Same F H) : ∀ {v : V} {d : D}, Rep F v d → Dp K H v d
  | _, _, .non => .non
  | _, _, .bl b => .bl b
  | _, _, .int i => .int i
  | _, _, .str x => .str x
  | _, _, .tup h r => .tup (SqT.of (s _ _ h)) (Reps.dp s r)
  | _, _, .lst h r => .lst (SqL.of (s _ _ h)) (Reps.dp s r)
theorem Reps.dp {K : PySem.W.Frag} {F H : Hp} (s : Same F H) : ∀ {vs : List V} {ds : List D}, Reps F vs ds → DpAll K H vs ds
  | _, _, .nil => .nil
  | _, _, .cons h t => .cons (Rep.dp s h) (Reps.dp s t)
end
theorem Rd.dp {K : PySem.W.Frag} {F H : Hp} {v : V} {d : D} (h : Rd F H v d) (s : Same F H) : Dp K H v d := by
  cases h with
  | v h => exact h.dp s
  | l e r => exact .lst (SqL.of e) (r.dp s)

/-! ### what grows -/
structure Grow (F H F' H' : Hp) : Prop where
  f : Same F F'
  le : Same F' H'
  h : Same H H'
  new : ∀ b, F' b ≠ none → F b ≠ none ∨ H b = none
theorem Grow.refl {F H : Hp} (s : Same F H) : Grow F H F H := ⟨fun _ _ h => h, s, fun _ _ h => h, fun _ h => .inl h⟩
/-- a new result -/
def RN (H F' H' : Hp) (v : V) : U → Prop
  | .v d => Rep F' v d
  | .o xs => ∃ p vs, v = .ref p ∧ H p = none ∧ H' p = some (.lst vs) ∧ F' p = none ∧ Reps F' vs xs
  | _ => False
theorem Grow.froz {F H : Hp} {p : Addr} {o : HO} (s : Same F H) (hp : H p = none) : Grow F H (upd F p o) (upd H p o) := by
  have fp : F p = none := by
    cases e : F p with
    | none => rfl
    | some x => have := s _ _ e; rw [hp] at this; cases this
  refine ⟨same_upd fp, fun b x e => ?_, same_upd hp, fun b e => ?_⟩
  · by_cases hb : b = p
    · subst hb; rw [upd_same] at e ⊢; exact e
    · rw [upd_ne hb] at e ⊢; exact s _ _ e
  · by_cases hb : b = p
    · subst hb; exact .inr hp
    · rw [upd_ne hb] at e; exact .inl e
theorem Grow.own {F H : Hp} {p : Addr} {o : HO} (s : Same F H) (hp : H p = none) : Grow F H F (upd H p o) :=
  ⟨fun _ _ h => h, fun b x e => by rw [upd_ne (ne_of_none (s _ _ e) hp)]; exact s _ _ e, same_upd hp, fun _ h => .inl h⟩
theorem noneF {F H : Hp} {p : Addr} (s : Same F H) (hp : H p = none) : F p = none := by
  cases e : F p with
  | none => rfl
  | some x => have := s _ _ e; rw [hp] at this; cases this
theorem same_updF {F H : Hp} {p : Addr} {o : HO} (s : Same F H) (hf : F p = none) : Same F (upd H p o) := fun b x e => by
  rw [upd_ne (ne_of_none e hf)]; exact s _ _ e

/-! ### the state -/
structure Zt where
  F : Hp
  P : Hp
  N : Addr → Prop
  R : Addr → Prop
  X : Nat → Option Addr
/-- an error's own dict; CT: the classes by number, their fields -/
abbrev CTab := Nat → Option (Addr × List Str)
def XR (CT : CTab) (F : Hp) (x : EX) (cls : Value) (d : Option Addr) : Prop :=
  ∃ C ns dx vs ds, CT x.c = some (C, ns) ∧ cls = .ref C ∧ d = some dx ∧ F dx = some (.xd (ns.zip vs)) ∧ Reps F vs ds ∧ ns.length = vs.length ∧ x.fs = ns.zip ds
def RS (K : PySem.W.Frag) (Z : Zt) (F H : Hp) (v : V) : U → Prop
  | .v d => Rep F v d
  | .o xs => ∃ a vs, v = .ref a ∧ H a = some (.lst vs) ∧ F a = none ∧ Reps F vs xs ∧ Z.N a ∧ Z.P a = none
  | .r xs => ∃ a vs, v = .ref a ∧ H a = some (.lst vs) ∧ F a = none ∧ Reps F vs xs ∧ Z.R a ∧ Z.P a = none
  | .s ns => ∃ a, v = .ref a ∧ SqL K Z.P a (ns.map V.int) ∧ ns.length ≤ LIM ∧ (Z.N a → SqL K (fun _ => none) a (ns.map V.int))
  | .x _ _ => True
def Own (env : Env) (i : Nat) : Prop := (∃ xs, get env i = some (.o xs)) ∨ ∃ xs, get env i = some (.r xs)
structure SR (K : PySem.W.Frag) (Z : Zt) (F H : Hp) (σ : L2.St) (env : Env) : Prop where
  len : env.length = σ.length
  le : Same F H
  keep : Same Z.P H
  base : Same Z.F F
  new : ∀ b, F b ≠ none → Z.F b ≠ none ∨ (Z.N b ∧ Z.P b = none)
  dom : ∀ b, H b = none → Z.N b
  slot : ∀ i u, get env i = some u → ∃ v, σ[i]? = some (some v) ∧ RS K Z F H v u
  dis : ∀ i j a, i ≠ j → Own env i → Own env j → σ[i]? = some (some (.ref a)) → σ[j]? = some (some (.ref a)) → False
  ref : ∀ i a, Z.X i = some a → (∃ xs, get env i = some (.r xs)) ∧ σ[i]? = some (some (.ref a))
def RU (Z : Zt) (F H : Hp) (σ : L2.St) (env : Env) (v : V) : U → Prop
  | .v d => Rep F v d
  | .o xs => ∃ a vs, v = .ref a ∧ H a = some (.lst vs) ∧ F a = none ∧ Reps F vs xs ∧ Z.N a ∧ Z.P a = none ∧ ∀ i, Own env i → σ[i]? ≠ some (some (.ref a))
  | _ => False

/-! slots -/
theorem get_put_same : ∀ {env : Env} {i : Nat} {u : Option U}, i < env.length → get (put env i u) i = u
  | _ :: _, 0, _, _ => rfl
  | _ :: r, i + 1, u, h => get_put_same (env := r) (i := i) (by simpa using h)
  | [], _, _, h => by simp at h
theorem get_put_ne : ∀ {env : Env} {i j : Nat} {u : Option U}, i ≠ j → get (put env i u) j = get env j
  | [], _, _, _, _ => rfl
  | _ :: _, 0, 0, _, h => absurd rfl h
  | _ :: _, 0, _ + 1, _, _ => rfl
  | _ :: _, _ + 1, 0, _, _ => rfl
  | _ :: r, i + 1, j + 1, u, h => get_put_ne (env := r) (by omega)
theorem put_length : ∀ (env : Env) (i : Nat) (u : Option U), (put env i u).length = env.length
  | [], _, _ => rfl
  | _ :: _, 0, _ => rfl
  | _ :: r, i + 1, u => by simp [put, put_length r i u]
theorem get_some_lt : ∀ {env : Env} {i : Nat} {u : U}, get env i = some u → i < env.length
  | [], _, _, h => by simp [get] at h
  | _ :: _, 0, _, _ => by simp
  | _ :: r, i + 1, u, h => by have := get_some_lt (env := r) (i := i) h; simp; omega
theorem get_put_some {env : Env} {i j : Nat} {w : Option U} {u : U} (h : get (put env i w) j = some u) : (i = j ∧ w = some u) ∨ (i ≠ j ∧ get env j = some u) := by
  by_cases e : i = j
  · subst e
    refine .inl ⟨rfl, ?_⟩
    have hl : i < env.length := by have := get_some_lt h; rwa [put_length] at this
    rw [get_put_same hl] at h; exact h
  · exact .inr ⟨e, by rwa [get_put_ne e] at h⟩
theorem Own.put {env : Env} {i j : Nat} {w : Option U} (h : Own (put env i w) j) : (i = j ∧ ((∃ xs, w = some (.o xs)) ∨ ∃ xs, w = some (.r xs))) ∨ (i ≠ j ∧ Own env j) := by
  rcases h with ⟨xs, h⟩ | ⟨xs, h⟩
  · rcases get_put_some h with ⟨e, q⟩ | ⟨e, q⟩
    · exact .inl ⟨e, .inl ⟨xs, q⟩⟩
    · exact .inr ⟨e, .inl ⟨xs, q⟩⟩
  · rcases get_put_some h with ⟨e, q⟩ | ⟨e, q⟩
    · exact .inl ⟨e, .inr ⟨xs, q⟩⟩
    · exact .inr ⟨e, .inr ⟨xs, q⟩⟩

section
variable {K : PySem.W.Frag} {Z : Zt} {F H F' H' : Hp} {σ : L2.St} {env : Env}
theorem SR.noneF (S : SR K Z F H σ env) {p : Addr} (h : H p = none) : F p = none := GM.noneF S.le h
theorem SR.noneP (S : SR K Z F H σ env) {p : Addr} (h : H p = none) : Z.P p = none := GM.noneF S.keep h
/-- an owner's address -/
theorem SR.own (S : SR K Z F H σ env) {i : Nat} (o : Own env i) : ∃ a vs xs, σ[i]? = some (some (.ref a)) ∧ H a = some (.lst vs) ∧ F a = none ∧ Reps F vs xs ∧ Z.P a = none ∧ (get env i = some (.o xs) ∨ get env i = some (.r xs)) := by
  rcases o with ⟨xs, h⟩ | ⟨xs, h⟩
  · obtain ⟨v, e, a, vs, rfl, h1, h2, h3, h4, h5⟩ := S.slot i _ h
    exact ⟨a, vs, xs, e, h1, h2, h3, h5, .inl h⟩
  · obtain ⟨v, e, a, vs, rfl, h1, h2, h3, h4, h5⟩ := S.slot i _ h
    exact ⟨a, vs, xs, e, h1, h2, h3, h5, .inr h⟩
theorem RS.grow {v : V} {u : U} (S : SR K Z F H σ env) (g : Grow F H F' H') (h : RS K Z F H v u) : RS K Z F' H' v u := by
  cases u with
  | v d => exact Rep.mono g.f h
  | o xs =>
    obtain ⟨a, vs, e, h1, h2, h3, h4⟩ := h
    refine ⟨a, vs, e, g.h _ _ h1, ?_, h3.mono g.f, h4⟩
    cases q : F' a with
    | none => rfl
    | some x =>
      rcases g.new a (by rw [q]; simp) with z | z
      · exact absurd h2 z
      · rw [h1] at z; cases z
  | r xs =>
    obtain ⟨a, vs, e, h1, h2, h3, h4⟩ := h
    refine ⟨a, vs, e, g.h _ _ h1, ?_, h3.mono g.f, h4⟩
    cases q : F' a with
    | none => rfl
    | some x =>
      rcases g.new a (by rw [q]; simp) with z | z
      · exact absurd h2 z
      · rw [h1] at z; cases z
  | s ns => exact h
  | x c fs => exact h
theorem SR.grow (S : SR K Z F H σ env) (g : Grow F H F' H') : SR K Z F' H' σ env where
  len := S.len
  le := g.le
  keep := S.keep.trans g.h
  base := S.base.trans g.f
  new := fun b h => by
    rcases g.new b h with z | z
    · exact S.new b z
    · exact .inr ⟨S.dom b z, S.noneP z⟩
  dom := fun b h => S.dom b (g.h.free h)
  slot := fun i u h => by
    obtain ⟨v, e, r⟩ := S.slot i u h
    exact ⟨v, e, r.grow S g⟩
  dis := S.dis
  ref := S.ref
theorem RN.ru {v : V} {u : U} (S : SR K Z F H σ env) (h : RN H F' H' v u) : RU Z F' H' σ env v u := by
  cases u with
  | v d => exact h
  | o xs =>
    obtain ⟨p, vs, e, h1, h2, h3, h4⟩ := h
    refine ⟨p, vs, e, h2, h3, h4, S.dom p h1, S.noneP h1, fun i o z => ?_⟩
    obtain ⟨a, vs', xs', e1, e2, _⟩ := S.own o
    rw [z] at e1; cases e1; rw [h1] at e2; cases e2
  | r xs => exact h
  | s ns => exact h
  | x c fs => exact h
theorem SR.asg (S : SR K Z F H σ env) {i : Nat} (ao : asgOk env i) : Z.X i = none := by
  cases q : Z.X i with
  | none => rfl
  | some a =>
    obtain ⟨⟨xs, g⟩, _⟩ := S.ref i a q
    unfold asgOk at ao
    rw [g] at ao
    exact ao.elim
/-- an own result is frozen -/
theorem RU.fz {v : V} {u : U} {d : D} (S : SR K Z F H σ env) (h : RU Z F H σ env v u) (e : u.fz = some d) : ∃ F', Same F F' ∧ SR K Z F' H σ env ∧ Rep F' v d := by
  cases u with
  | v d' => cases e; exact ⟨F, same_refl, S, h⟩
  | o xs =>
    cases e
    obtain ⟨a, vs, rfl, h1, h2, h3, h4, h5, h6⟩ := h
    have sF : Same F (upd F a (.lst vs)) := same_upd h2
    refine ⟨upd F a (.lst vs), sF, ⟨S.len, fun b x q => ?_, S.keep, S.base.trans sF, fun b q => ?_, S.dom, fun i w q => ?_, S.dis, S.ref⟩, .lst upd_same (h3.mono sF)⟩
    · by_cases hb : b = a
      · subst hb; rw [upd_same] at q; cases q; exact h1
      · rw [upd_ne hb] at q; exact S.le _ _ q
    · by_cases hb : b = a
      · subst hb; exact .inr ⟨h4, h5⟩
      · rw [upd_ne hb] at q; exact S.new _ q
    · obtain ⟨v, e1, r⟩ := S.slot i w q
      refine ⟨v, e1, ?_⟩
      cases w with
      | v d => exact Rep.mono sF r
      | o ys =>
        obtain ⟨b, ws, rfl, k1, k2, k3, k4⟩ := r
        have nb : b ≠ a := fun z => h6 i (.inl ⟨ys, q⟩) (by rw [e1, z])
        exact ⟨b, ws, rfl, k1, by rw [upd_ne nb]; exact k2, k3.mono sF, k4⟩
      | r ys =>
        obtain ⟨b, ws, rfl, k1, k2, k3, k4⟩ := r
        have nb : b ≠ a := fun z => h6 i (.inr ⟨ys, q⟩) (by rw [e1, z])
        exact ⟨b, ws, rfl, k1, by rw [upd_ne nb]; exact k2, k3.mono sF, k4⟩
      | s ns => exact r
      | x c fs => exact r
  | r xs => cases e
  | s ns => cases e
  | x c fs => cases e
/-- a slot is frozen -/
theorem SR.esc {i : Nat} {p : U × Env} (S : SR K Z F H σ env) (e : escV env i = some p) : ∃ v F' d, p.1 = .v d ∧ σ[i]? = some (some v) ∧ Same F F' ∧ SR K Z F' H σ p.2 ∧ Rep F' v d := by
  unfold escV at e
  cases q : get env i with
  | none => rw [q] at e; cases e
  | some u =>
    rw [q] at e
    obtain ⟨v, e1, r⟩ := S.slot i u q
    cases u with
    | v d => cases e; exact ⟨v, F, d, rfl, e1, same_refl, S, r⟩
    | o xs =>
      cases e
      obtain ⟨a, vs, rfl, h1, h2, h3, h4, h5⟩ := r
      have sF : Same F (upd F a (.lst vs)) := same_upd h2
      refine ⟨.ref a, upd F a (.lst vs), .list xs, rfl, e1, sF, ⟨by rw [put_length]; exact S.len, fun b x q => ?_, S.keep, S.base.trans sF, fun b q => ?_, S.dom, fun j w q' => ?_, fun j k b ne oj ok => ?_, fun j b hj => ?_⟩, .lst upd_same (h3.mono sF)⟩
      · by_cases hb : b = a
        · subst hb; rw [upd_same] at q; cases q; exact h1
        · rw [upd_ne hb] at q; exact S.le _ _ q
      · by_cases hb : b = a
        · subst hb; exact .inr ⟨h4, h5⟩
        · rw [upd_ne hb] at q; exact S.new _ q
      · rcases get_put_some q' with ⟨ej, ew⟩ | ⟨ej, ew⟩
        · subst ej; cases ew; exact ⟨_, e1, .lst upd_same (h3.mono sF)⟩
        · obtain ⟨v, e2, r⟩ := S.slot j w ew
          refine ⟨v, e2, ?_⟩
          cases w with
          | v d => exact Rep.mono sF r
          | o ys =>
            obtain ⟨b, ws, rfl, k1, k2, k3, k4⟩ := r
            have nb : b ≠ a := fun z => S.dis i j a ej (.inl ⟨xs, q⟩) (.inl ⟨ys, ew⟩) e1 (by rw [e2, z])
            exact ⟨b, ws, rfl, k1, by rw [upd_ne nb]; exact k2, k3.mono sF, k4⟩
          | r ys =>
            obtain ⟨b, ws, rfl, k1, k2, k3, k4⟩ := r
            have nb : b ≠ a := fun z => S.dis i j a ej (.inl ⟨xs, q⟩) (.inr ⟨ys, ew⟩) e1 (by rw [e2, z])
            exact ⟨b, ws, rfl, k1, by rw [upd_ne nb]; exact k2, k3.mono sF, k4⟩
          | s ns => exact r
          | x c fs => exact r
      · have f : ∀ {j}, Own (put env i (some (.v (.list xs)))) j → Own env j := fun {j} o => by
          rcases o.put with ⟨_, ⟨_, z⟩ | ⟨_, z⟩⟩ | ⟨_, z⟩
          · cases z
          · cases z
          · exact z
        exact S.dis j k b ne (f oj) (f ok)
      · obtain ⟨⟨ys, g⟩, g2⟩ := S.ref j b hj
        have ij : i ≠ j := fun z => by subst z; rw [q] at g; cases g
        exact ⟨⟨ys, by rw [get_put_ne ij]; exact g⟩, g2⟩
    | r xs => cases e
    | s ns => cases e
    | x c fs => cases e
/-- a value is stored at a slot -/
theorem SR.store {i : Nat} {v : V} {u : U} (S : SR K Z F H σ env) (hi : i < env.length) (ao : Z.X i = none) (st : storable u) (h : RU Z F H σ env v u) : SR K Z F H (σ.set i (some v)) (put env i (some u)) := by
  have hiσ : i < σ.length := by rw [← S.len]; exact hi
  have other : ∀ {j : Nat}, i ≠ j → (σ.set i (some v))[j]? = σ[j]? := fun ne => List.getElem?_set_ne ne
  refine ⟨by rw [put_length, List.length_set]; exact S.len, S.le, S.keep, S.base, S.new, S.dom, fun j w q => ?_, fun j k a ne oj ok e1 e2 => ?_, fun j b hj => ?_⟩
  · rcases get_put_some q with ⟨e, ew⟩ | ⟨e, ew⟩
    · subst e; cases ew
      refine ⟨v, List.getElem?_set_self hiσ, ?_⟩
      cases u with
      | v d => exact h
      | o xs => obtain ⟨a, vs, h1, h2, h3, h4, h5, h6, _⟩ := h; exact ⟨a, vs, h1, h2, h3, h4, h5, h6⟩
      | r xs => exact st.elim
      | s ns => exact st.elim
      | x c fs => exact st.elim
    · obtain ⟨v', e1, r⟩ := S.slot j w ew
      exact ⟨v', by rw [other e]; exact e1, r⟩
  · have f : ∀ {j}, Own (put env i (some u)) j → (i = j ∧ ∃ xs, u = .o xs) ∨ (i ≠ j ∧ Own env j) := fun {j} o => by
      rcases o.put with ⟨e, ⟨xs, z⟩ | ⟨xs, z⟩⟩ | z
      · cases z; exact .inl ⟨e, xs, rfl⟩
      · cases z; exact st.elim
      · exact .inr z
    rcases f oj with ⟨ej, xs, hu⟩ | ⟨ej, oj'⟩
    · subst ej; subst hu
      rcases f ok with ⟨ek, _⟩ | ⟨ek, ok'⟩
      · exact ne ek
      · obtain ⟨b, vs, rfl, _, _, _, _, _, h7⟩ := h
        rw [List.getElem?_set_self hiσ] at e1; cases e1
        rw [other ek] at e2
        exact h7 k ok' e2
    · rcases f ok with ⟨ek, xs, hu⟩ | ⟨ek, ok'⟩
      · subst ek; subst hu
        obtain ⟨b, vs, rfl, _, _, _, _, _, h7⟩ := h
        rw [List.getElem?_set_self hiσ] at e2; cases e2
        rw [other ej] at e1
        exact h7 j oj' e1
      · rw [other ej] at e1; rw [other ek] at e2
        exact S.dis j k a ne oj' ok' e1 e2
  · obtain ⟨⟨ys, g⟩, g2⟩ := S.ref j b hj
    have ij : i ≠ j := fun z => by subst z; rw [ao] at hj; cases hj
    exact ⟨⟨ys, by rw [get_put_ne ij]; exact g⟩, by rw [List.getElem?_set_ne ij]; exact g2⟩
/-- a slot is forgotten -/
theorem SR.forget {i : Nat} {ov : Option V} (ao : Z.X i = none) (S : SR K Z F H σ env) : SR K Z F H (σ.set i ov) (GM.put env i none) := by
  refine ⟨by rw [put_length, List.length_set]; exact S.len, S.le, S.keep, S.base, S.new, S.dom, fun j w q => ?_, fun j k a ne oj ok e1 e2 => ?_, fun j b hj => ?_⟩
  · rcases get_put_some q with ⟨e, ew⟩ | ⟨e, ew⟩
    · cases ew
    · obtain ⟨v', e1, r⟩ := S.slot j w ew
      exact ⟨v', by rw [List.getElem?_set_ne e]; exact e1, r⟩
  · rcases oj.put with ⟨_, ⟨_, z⟩ | ⟨_, z⟩⟩ | ⟨nj, oj'⟩
    · cases z
    · cases z
    rcases ok.put with ⟨_, ⟨_, z⟩ | ⟨_, z⟩⟩ | ⟨nk, ok'⟩
    · cases z
    · cases z
    rw [List.getElem?_set_ne nj] at e1
    rw [List.getElem?_set_ne nk] at e2
    exact S.dis j k a ne oj' ok' e1 e2
  · obtain ⟨⟨ys, g⟩, g2⟩ := S.ref j b hj
    have ij : i ≠ j := fun z => by subst z; rw [ao] at hj; cases hj
    exact ⟨⟨ys, by rw [get_put_ne ij]; exact g⟩, by rw [List.getElem?_set_ne ij]; exact g2⟩
/-- .. in the plain state alone -/
theorem SR.forget' {i : Nat} (ao : Z.X i = none) (S : SR K Z F H σ env) : SR K Z F H σ (GM.put env i none) := by
  refine ⟨by rw [put_length]; exact S.len, S.le, S.keep, S.base, S.new, S.dom, fun j w q => ?_, fun j k a ne oj ok e1 e2 => ?_, fun j b hj => ?_⟩
  · rcases get_put_some q with ⟨e, ew⟩ | ⟨e, ew⟩
    · cases ew
    · exact S.slot j w ew
  · rcases oj.put with ⟨_, ⟨_, z⟩ | ⟨_, z⟩⟩ | ⟨nj, oj'⟩
    · cases z
    · cases z
    rcases ok.put with ⟨_, ⟨_, z⟩ | ⟨_, z⟩⟩ | ⟨nk, ok'⟩
    · cases z
    · cases z
    exact S.dis j k a ne oj' ok' e1 e2
  · obtain ⟨⟨ys, g⟩, g2⟩ := S.ref j b hj
    have ij : i ≠ j := fun z => by subst z; rw [ao] at hj; cases hj
    exact ⟨⟨ys, by rw [get_put_ne ij]; exact g⟩, g2⟩
/-- an own list is changed -/
theorem SR.change {i : Nat} {xs ys : List D} {vs : List V} {a : Addr} (S : SR K Z F H σ env) (e : cellOf env i = some xs) (ea : σ[i]? = some (some (.ref a))) (r : Reps F vs ys) :
    SR K Z F (upd H a (.lst vs)) σ (putR env i (.r ys)) := by
  have main : ∀ (u : U), (u = .o ys ∨ u = .r ys) → (∀ w, get env i = some w → (u = .o ys → ∃ zs, w = .o zs) ∧ (u = .r ys → ∃ zs, w = .r zs)) → Own env i → SR K Z F (upd H a (.lst vs)) σ (GM.put env i (some u)) := by
    intro u hu hw ho
    obtain ⟨a', ws, zs, e1, h1, h2, h3, h4, h5⟩ := S.own ho
    rw [ea] at e1; cases e1
    refine ⟨by rw [put_length]; exact S.len, same_updF S.le h2, same_updF S.keep h4, S.base, S.new, fun b q => ?_, fun j w q => ?_, fun j k b ne oj ok => ?_, fun j b hj => ?_⟩
    · by_cases hb : b = a
      · subst hb; rw [upd_same] at q; cases q
      · rw [upd_ne hb] at q; exact S.dom b q
    · rcases get_put_some q with ⟨ej, ew⟩ | ⟨ej, ew⟩
      · subst ej; cases ew
        refine ⟨.ref a, ea, ?_⟩
        rcases h5 with g | g
        · obtain ⟨v, e2, b, us, ev, k1, k2, k3, k4, k5⟩ := S.slot i _ g
          rw [ea] at e2; cases e2; cases ev
          rcases hu with rfl | rfl
          · exact ⟨a, vs, rfl, upd_same, h2, r, k4, k5⟩
          · obtain ⟨zs', q'⟩ := (hw _ g).2 rfl; cases q'
        · obtain ⟨v, e2, b, us, ev, k1, k2, k3, k4, k5⟩ := S.slot i _ g
          rw [ea] at e2; cases e2; cases ev
          rcases hu with rfl | rfl
          · obtain ⟨zs', q'⟩ := (hw _ g).1 rfl; cases q'
          · exact ⟨a, vs, rfl, upd_same, h2, r, k4, k5⟩
      · obtain ⟨v, e2, rr⟩ := S.slot j w ew
        refine ⟨v, e2, ?_⟩
        cases w with
        | v d => exact rr
        | o ts =>
          obtain ⟨b, us, rfl, k1, k2, k3, k4⟩ := rr
          have nb : b ≠ a := fun z => S.dis i j a ej ho (.inl ⟨ts, ew⟩) ea (by rw [e2, z])
          exact ⟨b, us, rfl, by rw [upd_ne nb]; exact k1, k2, k3, k4⟩
        | r ts =>
          obtain ⟨b, us, rfl, k1, k2, k3, k4⟩ := rr
          have nb : b ≠ a := fun z => S.dis i j a ej ho (.inr ⟨ts, ew⟩) ea (by rw [e2, z])
          exact ⟨b, us, rfl, by rw [upd_ne nb]; exact k1, k2, k3, k4⟩
        | s ns => exact rr
        | x c fs => exact rr
    · have f : ∀ {j}, Own (GM.put env i (some u)) j → Own env j := fun {j} o => by
        rcases o.put with ⟨ej, _⟩ | ⟨_, z⟩
        · subst ej; exact ho
        · exact z
      exact S.dis j k b ne (f oj) (f ok)
    · obtain ⟨⟨zs', g⟩, g2⟩ := S.ref j b hj
      by_cases ij : i = j
      · subst ij
        rcases hu with rfl | rfl
        · obtain ⟨zs2, q'⟩ := (hw _ g).1 rfl; cases q'
        · exact ⟨⟨ys, get_put_same (get_some_lt g)⟩, g2⟩
      · exact ⟨⟨zs', by rw [get_put_ne ij]; exact g⟩, g2⟩
  unfold cellOf at e
  simp only [putR_eq]; unfold putR0
  cases q : get env i with
  | none => rw [q] at e; cases e
  | some u =>
    rw [q] at e
    cases u with
    | o zs => exact main (.o ys) (.inl rfl) (fun w hw => ⟨fun _ => ⟨zs, by rw [q] at hw; cases hw; rfl⟩, fun z => by cases z⟩) (.inl ⟨zs, q⟩)
    | r zs => exact main (.r ys) (.inr rfl) (fun w hw => ⟨fun z => (by cases z), fun _ => ⟨zs, by rw [q] at hw; cases hw; rfl⟩⟩) (.inr ⟨zs, q⟩)
    | v d => cases e
    | s ns => cases e
    | x c fs => cases e
theorem SR.cell {i : Nat} {xs : List D} (S : SR K Z F H σ env) (e : cellOf env i = some xs) : ∃ a vs, σ[i]? = some (some (.ref a)) ∧ H a = some (.lst vs) ∧ Reps F vs xs ∧ F a = none := by
  unfold cellOf at e
  cases q : get env i with
  | none => rw [q] at e; cases e
  | some u =>
    rw [q] at e
    obtain ⟨v, e1, r⟩ := S.slot i u q
    cases u with
    | o zs => cases e; obtain ⟨a, vs, rfl, h1, h2, h3, _⟩ := r; exact ⟨a, vs, e1, h1, h3, h2⟩
    | r zs => cases e; obtain ⟨a, vs, rfl, h1, h2, h3, _⟩ := r; exact ⟨a, vs, e1, h1, h3, h2⟩
    | v d => cases e
    | s ns => cases e
    | x c fs => cases e

/-! ### operands -/
def RO (F : Hp) (σ : L2.St) (v : V) : Op → Prop
  | .d d => Rep F v d
  | .var i => σ[i]? = some (some v)
theorem RO.mono {v : V} {o : Op} (s : Same F F') (h : RO F σ v o) : RO F' σ v o := by
  cases o with
  | d d => exact Rep.mono s h
  | var i => exact h
theorem RO.rd {v : V} {o : Op} {d : D} {F0 : Hp} (S : SR K Z F H σ env) (s : Same F0 F) (h : RO F0 σ v o) (e : rdv env o = some d) : Rd F H v d := by
  cases o with
  | d d' => cases e; exact .v (Rep.mono s h)
  | var i =>
    unfold rdv at e
    dsimp only at e
    cases q : get env i with
    | none => rw [q] at e; cases e
    | some u =>
      rw [q] at e
      obtain ⟨v', e1, r⟩ := S.slot i u q
      have h' : σ[i]? = some (some v) := h
      rw [h'] at e1; cases e1
      cases u with
      | v d => cases e; exact .v r
      | o xs => cases e; obtain ⟨a, vs, rfl, h1, h2, h3, _⟩ := r; exact .l h1 h3
      | r xs => cases e; obtain ⟨a, vs, rfl, h1, h2, h3, _⟩ := r; exact .l h1 h3
      | s ns => cases e
      | x c fs => cases e
end
def ROs (F : Hp) (σ : L2.St) : List V → List Op → Prop := Paired (fun v o => RO F σ v o)
def Rds (F H : Hp) : List V → List D → Prop := Paired (fun v d => Rd F H v d)
theorem ROs.rds {K : PySem.W.Frag} {Z : Zt} {F H F0 : Hp} {σ : L2.St} {env : Env} (S : SR K Z F H σ env) (s : Same F0 F) : ∀ {vs : List V} {os : List Op} {ds : List D}, ROs F0 σ vs os → rdvs env os = some ds → Rds F H vs ds
  | _, _, _, .nil, e => by cases e; exact .nil
  | _, _, ds, .cons (b := o) (l₂ := os) h t, e => by
    simp only [rdvs] at e
    cases q : rdv env o with
    | none => rw [q] at e; cases e
    | some d =>
      rw [q] at e
      cases q2 : rdvs env os with
      | none => rw [q2] at e; cases e
      | some ds' => rw [q2] at e; cases e; exact .cons (RO.rd S s h q) (ROs.rds S s t q2)
theorem ROs.mono {F F' : Hp} {σ : L2.St} (s : Same F F') : ∀ {vs : List V} {os : List Op}, ROs F σ vs os → ROs F' σ vs os
  | _, _, .nil => .nil
  | _, _, .cons h t => .cons (RO.mono s h) (ROs.mono s t)
end GM

set_option maxRecDepth 100000
/-! GM: the operations keep what they say -/
namespace GM
open PySem PySem.Spec PyProof.Rows L2
theorem limLine : LIM = sizeLine := by rw [sizeLine_eq]; rfl
def opOf : BOp → Operator
  | .add => .Add | .sub => .Sub | .mul => .Mult | .fdiv => .FloorDiv | .mod => .Mod | .pow => .Pow | .shl => .LShift | .shr => .RShift | .band => .BitAnd | .bor => .BitOr
def rBin (op : BOp) : R2 := fun x y H Q => ∃ F dx dy r, Same F H ∧ Rd F H x dx ∧ Rd F H y dy ∧ binD op dx dy = some r ∧ binC op dx dy ∧ ∀ v F' H', Grow F H F' H' → RN H F' H' v r → Q v H'
section
variable {X : Cx}
theorem mulC_or {i j : Int} (h : mulC i j) : CMul i j ∨ CMulW i j := h
theorem op_bin (op : BOp) : OpR X (binaryOp (opOf op)) (rBin op) := by
  intro pins s σ H x y v u Q I rx ry h
  obtain ⟨F, dx, dy, r, sF, h1, h2, e, c, q⟩ := h
  cases op with
  | add =>
    cases dx with
    | int i => cases dy with
      | int j =>
        cases h1.int; cases h2.int; cases e
        exact op_add pins s σ H _ _ v u Q I rx ry ⟨_, _, rfl, rfl, q _ F H (.refl sF) (.int _)⟩
      | _ => cases e
    | str i => cases dy with
      | str j =>
        cases h1.str; cases h2.str; cases e
        exact op_add_str pins s σ H _ _ v u Q I rx ry ⟨_, _, rfl, rfl, by rw [← limLine]; exact c, q _ F H (.refl sF) (.str _)⟩
      | _ => cases e
    | tuple xs => cases dy with
      | tuple ys =>
        obtain ⟨a, vs, rfl, ha, fa, ra⟩ := h1.tup sF
        obtain ⟨b, ws, rfl, hb, fb, rb⟩ := h2.tup sF
        cases e
        have c' : xs.length + ys.length ≤ LIM := c
        refine op_catA pins s σ H _ _ v u Q I rx ry ⟨a, b, vs, ws, rfl, rfl, SqT.of ha, SqT.of hb, by rw [ra.length, rb.length, ← limLine]; exact c', fun z => ?_, fun z z2 => ?_, fun z z2 p hp => ?_⟩
        · have e0 := ra.nil_iff.mp z
          subst e0
          exact q _ F H (.refl sF) (by rw [List.nil_append]; exact .tup fb rb)
        · have e0 := rb.nil_iff.mp z2
          subst e0
          exact q _ F H (.refl sF) (by rw [List.append_nil]; exact .tup fa ra)
        · have fp := noneF sF hp
          exact q _ _ _ (Grow.froz sF hp) (.tup upd_same ((ra.append rb).mono (same_upd fp)))
      | _ => cases e
    | list xs => cases dy with
      | list ys =>
        obtain ⟨a, vs, rfl, ha, ra⟩ := h1.lst sF
        obtain ⟨b, ws, rfl, hb, rb⟩ := h2.lst sF
        cases e
        have c' : xs.length + ys.length ≤ LIM := c
        exact op_cat pins s σ H _ _ v u Q I rx ry ⟨a, b, vs, ws, rfl, rfl, ha, hb, by rw [ra.length, rb.length, ← limLine]; exact c', fun p hp =>
          q _ _ _ (Grow.own sF hp) ⟨p, _, rfl, hp, upd_same, noneF sF hp, ra.append rb⟩⟩
      | _ => cases e
    | _ => cases e
  | sub =>
    cases dx with
    | int i => cases dy with
      | int j =>
        cases h1.int; cases h2.int; cases e
        exact op_sub pins s σ H _ _ v u Q I rx ry ⟨_, _, rfl, rfl, q _ F H (.refl sF) (.int _)⟩
      | _ => cases e
    | _ => cases e
  | mul =>
    cases dx with
    | int i => cases dy with
      | int j =>
        cases h1.int; cases h2.int; cases e
        rcases mulC_or c with c | c
        · exact op_mul pins s σ H _ _ v u Q I rx ry ⟨_, _, rfl, rfl, c, q _ F H (.refl sF) (.int _)⟩
        · exact op_mulW pins s σ H _ _ v u Q I rx ry ⟨_, _, rfl, rfl, c, q _ F H (.refl sF) (.int _)⟩
      | _ => cases e
    | list xs => cases dy with
      | int k =>
        obtain ⟨a, vs, rfl, ha, ra⟩ := h1.lst sF
        cases h2.int; cases e
        obtain ⟨c1, c2, c3⟩ := c
        exact op_rep pins s σ H _ _ v u Q I rx ry ⟨a, k, vs, rfl, rfl, ha, c1, c2, by rw [ra.length, ← limLine]; exact c3, fun p hp =>
          q _ _ _ (Grow.own sF hp) ⟨p, _, rfl, hp, upd_same, noneF sF hp, ra.rep _⟩⟩
      | _ => cases e
    | tuple xs => cases dy with
      | int k =>
        obtain ⟨a, vs, rfl, ha, fa, ra⟩ := h1.tup sF
        cases h2.int; cases e
        obtain ⟨c1, c2, c3⟩ := (show xs.length ≤ 1000 ∧ k ≤ 1000 ∧ 1 ≤ k from c)
        by_cases hz : xs = [] ∨ k = 1
        · refine op_rep1 pins s σ H _ _ v u Q I rx ry ⟨a, k, vs, rfl, rfl, SqT.of ha, ?_, by omega, by omega, q _ F H (.refl sF) ?_⟩
          · rcases hz with hz | hz
            · exact .inl (ra.nil_iff.mpr hz)
            · exact .inr hz
          · have e2 : (List.replicate k.toNat xs).flatten = xs := by
              rcases hz with hz | hz
              · rw [hz]; simp
              · rw [hz]; simp
            rw [e2]
            exact .tup fa ra
        · have c4 : xs ≠ [] := fun z => hz (.inl z)
          have c5 : k ≠ 1 := fun z => hz (.inr z)
          exact op_repT pins s σ H _ _ v u Q I rx ry ⟨a, k, vs, rfl, rfl, SqT.of ha, fun z => c4 (ra.nil_iff.mp z), by omega, c2, by rw [ra.length]; exact c1, fun p hp =>
            q _ _ _ (Grow.froz sF hp) (.tup upd_same ((ra.rep _).mono (same_upd (noneF sF hp))))⟩
      | _ => cases e
    | _ => cases e
  | fdiv =>
    cases dx with
    | int i => cases dy with
      | int j =>
        cases h1.int; cases h2.int; cases e
        obtain ⟨c1, c2 | c2⟩ := c
        · exact op_fdiv pins s σ H _ _ v u Q I rx ry ⟨_, _, rfl, rfl, ⟨c1, c2⟩, q _ F H (.refl sF) (.int _)⟩
        · exact op_fdivW pins s σ H _ _ v u Q I rx ry ⟨_, _, rfl, rfl, ⟨c1, c2⟩, q _ F H (.refl sF) (.int _)⟩
      | _ => cases e
    | _ => cases e
  | mod =>
    cases dx with
    | int i => cases dy with
      | int j =>
        cases h1.int; cases h2.int; cases e
        exact op_mod pins s σ H _ _ v u Q I rx ry ⟨_, _, rfl, rfl, c, q _ F H (.refl sF) (.int _)⟩
      | _ => cases e
    | _ => cases e
  | pow =>
    cases dx with
    | int i => cases dy with
      | int j =>
        cases h1.int; cases h2.int; cases e
        exact op_pow pins s σ H _ _ v u Q I rx ry ⟨_, _, rfl, rfl, c, q _ F H (.refl sF) (.int _)⟩
      | _ => cases e
    | _ => cases e
  | shl =>
    cases dx with
    | int i => cases dy with
      | int j =>
        cases h1.int; cases h2.int; cases e
        exact op_shl pins s σ H _ _ v u Q I rx ry ⟨_, _, rfl, rfl, c, q _ F H (.refl sF) (.int _)⟩
      | _ => cases e
    | _ => cases e
  | shr =>
    cases dx with
    | int i => cases dy with
      | int j =>
        cases h1.int; cases h2.int; cases e
        exact op_shr pins s σ H _ _ v u Q I rx ry ⟨_, _, rfl, rfl, c, q _ F H (.refl sF) (.int _)⟩
      | _ => cases e
    | _ => cases e
  | band =>
    cases dx with
    | int i => cases dy with
      | int j =>
        cases h1.int; cases h2.int; cases e
        exact op_and pins s σ H _ _ v u Q I rx ry ⟨_, _, rfl, rfl, q _ F H (.refl sF) (.int _)⟩
      | _ => cases e
    | _ => cases e
  | bor =>
    cases dx with
    | int i => cases dy with
      | int j =>
        cases h1.int; cases h2.int; cases e
        exact op_or pins s σ H _ _ v u Q I rx ry ⟨_, _, rfl, rfl, q _ F H (.refl sF) (.int _)⟩
      | _ => cases e
    | _ => cases e

/-! ### comparisons -/
def copOf : COp → CmpOp
  | .lt => .Lt | .le => .LtE | .gt => .Gt | .ge => .GtE | .eq => .Eq | .ne => .NotEq | .is_ => .Is | .isnot => .IsNot | .in_ => .In | .notin => .NotIn
def rCmp (op : COp) : R2 := fun x y H Q => ∃ F dx dy r, Same F H ∧ Rd F H x dx ∧ Rd F H y dy ∧ cmpD op dx dy = some r ∧ cmpC op dx dy ∧ Q (.bl r) H
theorem Rd.is_non {F H : Hp} {x : V} {d : D} (h : Rd F H x d) : decide (x = .non) = isN d := by
  cases h with
  | v h => cases h <;> rfl
  | l e r => rfl
theorem layT {ys : List D} (h : shapedP (.tuple ys)) : PyData.canLayAll0 ys = true := by
  have := SeqAt.canLay_of_shaped h
  simpa [PyData.canLay0] using this
theorem op_cmp (op : COp) (hu : X.A.units + 65 < cLine) : OpR X (compareOp (copOf op)) (rCmp op) := by
  intro pins s σ H x y v u Q I rx ry h
  obtain ⟨F, dx, dy, r, sF, h1, h2, e, c, q⟩ := h
  have hu0 : X.A.units < cLine := by omega
  have hu64 : X.A.units + 64 < cLine := by omega
  cases op with
  | lt =>
    cases dx with
    | int i => cases dy with
      | int j => cases h1.int; cases h2.int; cases e; exact op_lt pins s σ H _ _ v u Q I rx ry ⟨_, _, rfl, rfl, q⟩
      | _ => cases e
    | tuple xs => cases dy with
      | tuple ys =>
        obtain ⟨a, vs, rfl, ha, fa, ra⟩ := h1.tup sF
        obtain ⟨b, ws, rfl, hb, fb, rb⟩ := h2.tup sF
        simp only [cmpD] at e
        cases e1 : intsD xs with
        | none => rw [e1] at e; cases e
        | some ns =>
          cases e2 : intsD ys with
          | none => rw [e1, e2] at e; cases e
          | some ms =>
            rw [e1, e2] at e
            cases e
            have := ra.ints e1
            subst this
            have := rb.ints e2
            subst this
            exact op_ltT hu0 pins s σ H _ _ v u Q I rx ry ⟨_, _, _, _, rfl, rfl, SqT.of ha, SqT.of hb, q⟩
      | _ => cases e
    | _ => cases e
  | le =>
    cases dx with
    | int i => cases dy with
      | int j => cases h1.int; cases h2.int; cases e; exact op_le pins s σ H _ _ v u Q I rx ry ⟨_, _, rfl, rfl, q⟩
      | _ => cases e
    | _ => cases e
  | gt =>
    cases dx with
    | int i => cases dy with
      | int j => cases h1.int; cases h2.int; cases e; exact op_gt pins s σ H _ _ v u Q I rx ry ⟨_, _, rfl, rfl, q⟩
      | _ => cases e
    | _ => cases e
  | ge =>
    cases dx with
    | int i => cases dy with
      | int j => cases h1.int; cases h2.int; cases e; exact op_ge pins s σ H _ _ v u Q I rx ry ⟨_, _, rfl, rfl, q⟩
      | _ => cases e
    | _ => cases e
  | eq =>
    cases e
    exact op_eqD hu64 pins s σ H _ _ v u Q I rx ry ⟨dx, dy, h1.dp sF, h2.dp sF, c.1, c.2, q⟩
  | ne =>
    cases e
    exact op_neD hu64 pins s σ H _ _ v u Q I rx ry ⟨dx, dy, h1.dp sF, h2.dp sF, c.1, c.2, q⟩
  | is_ =>
    cases dy with
    | none =>
      cases e; cases h2.non
      refine op_isN pins s σ H _ _ v u Q I rx ry ⟨rfl, ?_⟩
      rw [h1.is_non]; exact q
    | bool b => cases dx with
      | bool a => cases h1.bl; cases h2.bl; cases e; exact op_is_bl pins s σ H _ _ v u Q I rx ry ⟨_, _, rfl, rfl, by rw [Bool.beq_eq_decide_eq] at q; exact q⟩
      | _ => cases e
    | _ => cases dx <;> cases e
  | isnot =>
    cases dy with
    | none =>
      cases e; cases h2.non
      refine op_notN pins s σ H _ _ v u Q I rx ry ⟨rfl, ?_⟩
      rw [h1.is_non]
      exact q
    | bool b => cases dx with
      | bool a => cases h1.bl; cases h2.bl; cases e; exact op_isnot_bl pins s σ H _ _ v u Q I rx ry ⟨_, _, rfl, rfl, by rw [Bool.beq_eq_decide_eq] at q; exact q⟩
      | _ => cases e
    | _ => cases dx <;> cases e
  | in_ =>
    cases dy with
    | list ys => cases e; exact op_inD hu pins s σ H _ _ v u Q I rx ry ⟨dx, ys, h1.dp sF, h2.dp sF, c.1, c.2, q⟩
    | tuple ys =>
      cases e
      obtain ⟨as, r1⟩ := Dp.reads I dx x v (h1.dp sF) rx
      obtain ⟨bs, r2⟩ := Dp.reads I (.tuple ys) y u (h2.dp sF) ry
      exact SeqAt.in_tuple_reads r2 r1 (layT c.2) (SeqAt.canLay_of_shaped c.1) (room_in_shaped c.1 hu) ⟨.bl _, H, I, rfl, q⟩
    | _ => cases e
  | notin =>
    cases dy with
    | list ys => cases e; exact op_notInD hu pins s σ H _ _ v u Q I rx ry ⟨dx, ys, h1.dp sF, h2.dp sF, c.1, c.2, q⟩
    | tuple ys =>
      cases e
      obtain ⟨as, r1⟩ := Dp.reads I dx x v (h1.dp sF) rx
      obtain ⟨bs, r2⟩ := Dp.reads I (.tuple ys) y u (h2.dp sF) ry
      exact SeqAt.notIn_tuple_reads r2 r1 (layT c.2) (SeqAt.canLay_of_shaped c.1) (room_in_shaped c.1 hu) ⟨.bl _, H, I, rfl, q⟩
    | _ => cases e

/-! ### subscripts, slices -/
theorem atD_atI {α : Type} {xs : List α} {i : Int} {x : α} (h : atD xs i = some x) : atI xs i = some x := by
  cases i with
  | ofNat n => exact atI_nat (j := n) h
  | negSucc n =>
    simp only [atD] at h
    split at h
    · rename_i hn
      unfold atI ixN
      rw [if_neg (by omega), if_pos (by omega)]
      show xs[((Int.negSucc n) + (xs.length : Int)).toNat]? = some x
      have e : ((Int.negSucc n) + (xs.length : Int)).toNat = xs.length - (n + 1) := by omega
      rw [e]; exact h
    · cases h
theorem Reps.atI {F : Hp} {vs : List V} {ds : List D} {i : Int} {d : D} (r : Reps F vs ds) (h : atD ds i = some d) : ∃ v, L2.atI vs i = some v ∧ Rep F v d := by
  have h' := atD_atI h
  unfold L2.atI at h' ⊢
  rw [r.length]
  cases e : ixN ds.length i with
  | none => rw [e] at h'; cases h'
  | some j => rw [e] at h'; obtain ⟨v, h1, h2⟩ := r.get h'; exact ⟨v, h1, h2⟩
def rIdx : R2 := fun x y H Q => ∃ F dx dy d, Same F H ∧ Rd F H x dx ∧ Rd F H y dy ∧ idxD dx dy = some d ∧ ∀ v, Rep F v d → Q v H
theorem ix_D : IxR X rIdx := by
  intro val sli pins s σ H x y v u Q I rx ry h hsub
  obtain ⟨F, dx, dy, d, sF, h1, h2, e, q⟩ := h
  cases dx with
  | list xs => cases dy with
    | int i =>
      obtain ⟨a, vs, rfl, ha, ra⟩ := h1.lst sF
      cases h2.int
      obtain ⟨w, h3, h4⟩ := ra.atI e
      exact ix_list val sli pins s σ H _ _ v u Q I rx ry ⟨_, _, _, _, rfl, rfl, SqL.of ha, h3, q _ h4⟩ hsub
    | _ => cases e
  | tuple xs => cases dy with
    | int i =>
      obtain ⟨a, vs, rfl, ha, fa, ra⟩ := h1.tup sF
      cases h2.int
      obtain ⟨w, h3, h4⟩ := ra.atI e
      exact ix_tup val sli pins s σ H _ _ v u Q I rx ry ⟨_, _, _, _, rfl, rfl, SqT.of ha, h3, q _ h4⟩ hsub
    | _ => cases e
  | _ => cases e
def rSlc : V → Option Int → Option Int → Hp → VK → Prop := fun x lo hi H Q => ∃ F dx r, Same F H ∧ Rd F H x dx ∧ slcD dx lo hi = some r ∧ ∀ v F' H', Grow F H F' H' → RN H F' H' v r → Q v H'
theorem cutL_whole {α : Type} (xs : List α) {lo hi : Option Int} (h : HT.sIx xs.length 0 lo = 0 ∧ HT.sIx xs.length xs.length hi = xs.length) : cutL xs lo hi = xs := by
  unfold cutL; rw [h.1, h.2]; simp
theorem sl_D : SlR X rSlc := by
  intro pins s σ H x v vl vu lo hi sl Q I rx hs pl pu h
  obtain ⟨F, dx, r, sF, h1, e, q⟩ := h
  cases dx with
  | list xs =>
    obtain ⟨a, vs, rfl, ha, ra⟩ := h1.lst sF
    cases e
    exact sl_list pins s σ H _ v vl vu lo hi sl Q I rx hs pl pu ⟨a, vs, rfl, SqL.of ha, fun p hp => q _ _ _ (Grow.own sF hp) ⟨p, _, rfl, hp, upd_same, noneF sF hp, ra.cut lo hi⟩⟩
  | tuple xs =>
    obtain ⟨a, vs, rfl, ha, fa, ra⟩ := h1.tup sF
    cases e
    refine sl_tupA pins s σ H _ v vl vu lo hi sl Q I rx hs pl pu ⟨a, vs, rfl, SqT.of ha, fun z => ?_, fun z p hp => ?_⟩
    · rw [ra.length] at z
      refine q _ F H (.refl sF) ?_
      show Rep F _ (.tuple (cutL xs lo hi))
      rw [cutL_whole xs z]; exact .tup fa ra
    · exact q _ _ _ (Grow.froz sF hp) (.tup upd_same ((ra.cut lo hi).mono (same_upd (noneF sF hp))))
  | _ => cases e
/-- a slice of the script -/
def rSlcS (K : PySem.W.Frag) : V → Option Int → Option Int → Hp → VK → Prop := fun x lo hi H Q => ∃ (F : Hp) (a : Addr) (ns : List Int), Same F H ∧ x = .ref a ∧ SqL K H a (ns.map V.int) ∧ ∀ v F' H', Grow F H F' H' → RN H F' H' v (.o (cutL (ns.map PyData.int) lo hi)) → Q v H'
theorem sl_S : SlR X (rSlcS X.K) := by
  intro pins s σ H x v vl vu lo hi sl Q I rx hs pl pu h
  obtain ⟨F, a, ns, sF, rfl, ha, q⟩ := h
  exact sl_list pins s σ H _ v vl vu lo hi sl Q I rx hs pl pu ⟨a, _, rfl, ha, fun p hp => q _ _ _ (Grow.own sF hp) ⟨p, _, rfl, hp, upd_same, noneF sF hp, (Reps.of_ints ns).cut lo hi⟩⟩
/-! ### own lists are changed -/
theorem set_D {F H : Hp} {a : Addr} {vs : List V} {xs ys : List D} {v : V} {d y : D} {w : V} (r : Reps F vs xs) (h : Rep F v d) (hy : Rd F H w y) (e : setAt xs y d = some ys) :
    ∃ k j, w = .int k ∧ ixN vs.length k = some j ∧ Reps F (vs.set j v) ys := by
  cases y with
  | int k =>
    simp only [setAt] at e
    rw [r.length]
    cases q : ixN xs.length k with
    | none => rw [q] at e; cases e
    | some j => rw [q] at e; cases e; exact ⟨k, j, hy.int, q, r.set h j⟩
  | _ => cases e
/-- a method of an own list, by values -/
def rMth (mn : MN) : V → List V → Hp → VK → Prop := fun x zs H Q => ∃ F a vs xs ds p, Same F H ∧ x = .ref a ∧ H a = some (.lst vs) ∧ F a = none ∧ Reps F vs xs ∧ Reps F zs ds ∧ mthD mn xs ds = some p ∧ mthC mn xs ds ∧
  ∀ v vs', Rep F v p.1 → Reps F vs' p.2 → Q v (upd H a (.lst vs'))
def mnId : MN → String
  | .append => "list.append" | .pop => "list.pop" | .popAt => "list.pop" | .extend => "list.extend" | .insert => "list.insert" | .reverse => "list.reverse"
theorem Reps.nil_l {F : Hp} {vs : List V} (r : Reps F vs []) : vs = [] := by cases r; rfl
theorem Reps.one_l {F : Hp} {vs : List V} {d : D} (r : Reps F vs [d]) : ∃ v, vs = [v] ∧ Rep F v d := by
  cases r with | cons h t => cases t; exact ⟨_, rfl, h⟩
theorem MtM.mtr {id : String} {r : V → List V → Hp → VK → Prop} (h : MtM X id r) : MtR X id r := h
theorem mt_mth (mn : MN) : MtR X (mnId mn) (rMth mn) := by
  intro pins s σ H x zs v us Q I rx rz h
  obtain ⟨F, a, vs, xs, ds, p, sF, rfl, ha, fa, r, rd, e, c, q⟩ := h
  cases mn with
  | append =>
    match ds, e, c with
    | [y], e, c =>
      obtain ⟨w, rfl, hw⟩ := rd.one_l
      cases e
      exact (mt_append) pins s σ H _ _ v us Q I rx rz ⟨a, vs, w, rfl, rfl, ha, by rw [r.length, ← limLine]; exact c, q _ _ .non (r.append (.one hw))⟩
    | [], e, _ => cases e
    | _ :: _ :: _, e, _ => cases e
  | pop =>
    match ds, e with
    | [], e =>
      cases rd.nil_l
      simp only [mthD] at e
      cases g : xs.getLast? with
      | none => rw [g] at e; cases e
      | some y =>
        rw [g] at e; cases e
        rw [List.getLast?_eq_getElem?] at g
        obtain ⟨w, h1, h2⟩ := r.get g
        exact (mt_pop) pins s σ H _ _ v us Q I rx rz ⟨a, vs, w, rfl, rfl, ha, by rw [r.length]; exact h1, q _ _ h2 r.dropLast⟩
    | _ :: _, e => cases e
  | popAt =>
    match ds, e with
    | [.int i], e =>
      obtain ⟨w, rfl, hw⟩ := rd.one_l
      cases hw
      simp only [mthD] at e
      cases g : atD xs i with
      | none => rw [g] at e; cases e
      | some y =>
        rw [g] at e; cases e
        obtain ⟨w, h1, h2⟩ := r.atI g
        obtain ⟨z, its, n, rv, hl, _⟩ := I.lstM ha
        obtain ⟨j, h3, h4, h5, h6, h7⟩ := atI_get h1
        have hz : vs.length ≤ 16777216 := by rw [sizeLine_eq] at z; exact z
        refine (mt_popAt) pins s σ H _ _ v us Q I rx rz ⟨a, vs, i, j, w, rfl, rfl, ha, by omega, by omega, h3, h4, ?_⟩
        have ej : j = (if i < 0 then (i + xs.length).toNat else i.toNat) := by
          have hh := h1
          unfold L2.atI at hh
          cases g2 : ixN vs.length i with
          | none => rw [g2] at hh; cases hh
          | some k =>
            have e3 := (ixN_seq g2).1
            rw [h3] at e3; cases e3
            unfold ixN at g2
            by_cases hi : 0 ≤ i
            · rw [if_pos hi, if_pos h7] at g2
              cases g2
              rw [if_neg (by omega)]
            · rw [if_neg hi, if_pos h6] at g2
              cases g2
              rw [if_pos (by omega), r.length]
        rw [ej]
        exact q _ _ h2 (r.erase _)
    | [], e => cases e
    | [.none], e | [.bool _], e | [.str _], e | [.list _], e | [.tuple _], e | [.dict _], e => cases e
    | d0 :: _ :: _, e => cases d0 <;> cases e
  | extend =>
    match ds, e, c with
    | [.list ys], e, c =>
      obtain ⟨w, rfl, hw⟩ := rd.one_l
      cases hw with
      | lst hb rb =>
        cases e
        exact (mt_extend) pins s σ H _ _ v us Q I rx rz ⟨a, _, vs, _, rfl, rfl, ha, sF _ _ hb, by rw [r.length, rb.length, ← limLine]; exact c, q _ _ .non (r.append rb)⟩
    | [], e, _ => cases e
    | [.none], e, _ | [.bool _], e, _ | [.str _], e, _ | [.int _], e, _ | [.tuple _], e, _ | [.dict _], e, _ => cases e
    | d0 :: _ :: _, e, _ => cases d0 <;> cases e
  | insert => cases e
  | reverse =>
    match ds, e with
    | [], e =>
      cases rd.nil_l
      cases e
      exact (mt_reverse) pins s σ H _ _ v us Q I rx rz ⟨a, vs, rfl, rfl, ha, q _ _ .non r.reverse⟩
    | _ :: _, e => cases e
/-! ### built-in functions of data -/
def biIn : BI → Value
  | .len => .builtin "len" | .abs => .builtin "abs" | .int1 => .type "int" | .tup1 => .type "tuple" | .lst1 => .type "list" | .sorted => .builtin "sorted" | .sum => .builtin "sum"
  | .min1 => .builtin "min" | .max1 => .builtin "max" | .min2 => .builtin "min" | .max2 => .builtin "max" | .gcd => .builtin "math.gcd" | .lcm => .builtin "math.lcm"
  | .isi _ => .none | .rngT => .none | .rngL => .none | .str1 => .type "str" | .sset => .none
def rBi (b : BI) : List V → Hp → VK → Prop := fun xs H Q => ∃ F ds r, Same F H ∧ Rds F H xs ds ∧ biD b ds = some r ∧ biC b ds ∧ ∀ v F' H', Grow F H F' H' → RN H F' H' v r → Q v H'
theorem Rds.one {F H : Hp} {xs : List V} {d : D} (h : Rds F H xs [d]) : ∃ x, xs = [x] ∧ Rd F H x d := by
  cases h with | cons h t => cases t; exact ⟨_, rfl, h⟩
theorem Rds.two {F H : Hp} {xs : List V} {d e : D} (h : Rds F H xs [d, e]) : ∃ x y, xs = [x, y] ∧ Rd F H x d ∧ Rd F H y e := by
  cases h with | cons h t => cases t with | cons h2 t => cases t; exact ⟨_, _, rfl, h, h2⟩

theorem maxI_ge : ∀ (ns : List Int), ∀ y ∈ ns, y ≤ maxI ns
  | [], _, h => by simp at h
  | [x], y, h => by simp at h; subst h; exact Int.le_refl _
  | x :: z :: r, y, h => by
    show y ≤ max x (maxI (z :: r))
    rcases List.mem_cons.mp h with e | h
    · subst e; omega
    · have := maxI_ge (z :: r) y h; omega
theorem maxI_mem : ∀ (ns : List Int), 0 < ns.length → maxI ns ∈ ns
  | [], h => by simp at h
  | [x], _ => by simp [maxI]
  | x :: z :: r, _ => by
    have := maxI_mem (z :: r) (by simp)
    show max x (maxI (z :: r)) ∈ _
    by_cases c : x ≤ maxI (z :: r)
    · rw [Int.max_eq_right c]; exact List.mem_cons_of_mem _ this
    · rw [Int.max_eq_left (by omega)]; exact List.mem_cons_self
theorem minI_le : ∀ (ns : List Int), ∀ y ∈ ns, minI ns ≤ y
  | [], _, h => by simp at h
  | [x], y, h => by simp at h; subst h; exact Int.le_refl _
  | x :: z :: r, y, h => by
    show min x (minI (z :: r)) ≤ y
    rcases List.mem_cons.mp h with e | h
    · subst e; omega
    · have := minI_le (z :: r) y h; omega
theorem minI_mem : ∀ (ns : List Int), 0 < ns.length → minI ns ∈ ns
  | [], h => by simp at h
  | [x], _ => by simp [minI]
  | x :: z :: r, _ => by
    have := minI_mem (z :: r) (by simp)
    show min x (minI (z :: r)) ∈ _
    by_cases c : x ≤ minI (z :: r)
    · rw [Int.min_eq_left c]; exact List.mem_cons_self
    · rw [Int.min_eq_right (by omega)]; exact List.mem_cons_of_mem _ this
theorem sortI_uniq {ns ms : List Int} (p : ms.Perm ns) (o : ms.Pairwise (· ≤ ·)) : ms = sortI ns := by
  have h1 : (sortI ns).Pairwise (fun a b => decide (a ≤ b) = true) := List.pairwise_mergeSort (fun a b c h h' => by simp at *; omega) (fun a b => by simp; omega) ns
  have h2 : (sortI ns).Perm ns := List.mergeSort_perm ns _
  refine List.Perm.eq_of_pairwise (le := fun a b => a ≤ b) (fun a b _ _ x y => by omega) o (h1.imp fun h => by simpa using h) (p.trans h2.symm)
theorem intsD_length : ∀ {xs : List D} {ns : List Int}, intsD xs = some ns → ns.length = xs.length
  | [], _, e => by simp [intsD] at e; subst e; rfl
  | x :: xs, ns, e => by
    cases x with
    | int i =>
      simp only [intsD] at e
      cases q : intsD xs with
      | none => rw [q] at e; cases e
      | some is => rw [q] at e; cases e; simp [intsD_length q]
    | _ => simp [intsD] at e
/-- the built-ins that are served -/
def biOk : BI → Bool
  | .len => true | .abs => true | .int1 => true | .tup1 => true | .lst1 => true | .sorted => true | .sum => true | .min1 => true | .max1 => true | .min2 => true | .max2 => true | .gcd => true | .lcm => true | .str1 => true
  | _ => false
theorem bi_one_list {b : BI} (hb : b = .sum ∨ b = .max1 ∨ b = .min1) {ds : List D} {r : U} (e : biD b ds = some r) (c : biC b ds) : ∃ ys, ds = [.list ys] ∨ (ds = [.tuple ys] ∧ b ≠ .sorted) := by
  match ds, e, c with
  | [], e, _ => rcases hb with rfl | rfl | rfl <;> cases e
  | [x], e, c =>
    cases x with
    | list ys => exact ⟨ys, .inl rfl⟩
    | tuple ys =>
      rcases hb with rfl | rfl | rfl
      · exact ⟨ys, .inr ⟨rfl, by decide⟩⟩
      · exact ⟨ys, .inr ⟨rfl, by decide⟩⟩
      · exact ⟨ys, .inr ⟨rfl, by decide⟩⟩
    | _ => rcases hb with rfl | rfl | rfl <;> (simp only [biD, seqD] at e; cases e)
  | x :: y :: z, e, _ => rcases hb with rfl | rfl | rfl <;> cases x <;> cases e
theorem bi_sorted_seq {ds : List D} {r : U} (e : biD .sorted ds = some r) : ∃ ys, ds = [.list ys] ∨ ds = [.tuple ys] := by
  match ds, e with
  | [], e => cases e
  | [x], e =>
    cases x with
    | list ys => exact ⟨ys, .inl rfl⟩
    | tuple ys => exact ⟨ys, .inr rfl⟩
    | _ => simp only [biD, seqD] at e; cases e
  | x :: y :: z, e => cases x <;> cases e
/-! rows, sorted -/
theorem leL_lt : ∀ a b : List Int, leL a b = !decide (b < a)
  | [], b => by simp [leL]
  | x :: xs, [] => by simp [leL]
  | x :: xs, y :: ys => by
    rw [leL, leL_lt xs ys]
    by_cases e : x = y
    · subst e; simp [List.cons_lt_cons_iff]
    · rw [if_neg e]
      have e2 : ¬ y = x := fun z => e z.symm
      by_cases h : x < y
      · have : ¬ y < x := by omega
        simp [List.cons_lt_cons_iff, e2, h, this]
      · have : y < x := by omega
        simp [List.cons_lt_cons_iff, e2, h, this]
theorem leL_total : ∀ a b : List Int, leL a b = true ∨ leL b a = true
  | [], _ => .inl rfl
  | _ :: _, [] => .inr rfl
  | x :: xs, y :: ys => by
    unfold leL
    by_cases e : x = y
    · subst e; rw [if_pos rfl, if_pos rfl]; exact leL_total xs ys
    · rw [if_neg e, if_neg fun z => e z.symm]
      by_cases h : x < y
      · exact .inl (by simpa using h)
      · exact .inr (by simp; omega)
theorem leL_trans : ∀ a b c : List Int, leL a b = true → leL b c = true → leL a c = true
  | [], _, _, _, _ => rfl
  | _ :: _, [], _, h, _ => by cases h
  | _ :: _, _ :: _, [], _, h => by cases h
  | x :: xs, y :: ys, z :: zs, h, h' => by
    unfold leL at h h' ⊢
    by_cases e : x = y
    · subst e
      rw [if_pos rfl] at h
      by_cases e2 : x = z
      · subst e2; rw [if_pos rfl] at h' ⊢; exact leL_trans xs ys zs h h'
      · rw [if_neg e2] at h' ⊢; exact h'
    · rw [if_neg e] at h
      have h1 : x < y := by simpa using h
      by_cases e2 : y = z
      · subst e2; rw [if_neg e]; exact h
      · rw [if_neg e2] at h'
        have h2 : y < z := by simpa using h'
        rw [if_neg (by omega)]; simp; omega
theorem leL_antisymm : ∀ a b : List Int, leL a b = true → leL b a = true → a = b
  | [], [], _, _ => rfl
  | [], _ :: _, _, h => by cases h
  | _ :: _, [], h, _ => by cases h
  | x :: xs, y :: ys, h, h' => by
    unfold leL at h h'
    by_cases e : x = y
    · subst e
      rw [if_pos rfl] at h h'
      rw [leL_antisymm xs ys h h']
    · rw [if_neg e] at h
      rw [if_neg fun z => e z.symm] at h'
      have h1 : x < y := by simpa using h
      have h2 : y < x := by simpa using h'
      omega
theorem insT_perm (x : List Int) : ∀ ys, (insT x ys).Perm (x :: ys)
  | [] => List.Perm.refl _
  | y :: ys => by
    unfold insT
    split
    · exact List.Perm.refl _
    · exact ((insT_perm x ys).cons y).trans (List.Perm.swap x y ys)
theorem sortT_perm : ∀ xs, (sortT xs).Perm xs
  | [] => List.Perm.refl _
  | x :: xs => (insT_perm x _).trans ((sortT_perm xs).cons x)
theorem insT_sorted (x : List Int) : ∀ {ys}, ys.Pairwise (fun a b => leL a b = true) → (insT x ys).Pairwise (fun a b => leL a b = true)
  | [], _ => List.pairwise_singleton _ _
  | y :: ys, h => by
    unfold insT
    have ⟨h1, h2⟩ := List.pairwise_cons.mp h
    split
    · rename_i c
      exact List.pairwise_cons.mpr ⟨fun z hz => by
        rcases List.mem_cons.mp hz with e | hz
        · subst e; exact c
        · exact leL_trans _ _ _ c (h1 z hz), h⟩
    · rename_i c
      refine List.pairwise_cons.mpr ⟨fun z hz => ?_, insT_sorted x h2⟩
      rcases List.mem_cons.mp ((insT_perm x ys).mem_iff.mp hz) with e | hz
      · subst e
        rcases leL_total y z with q | q
        · exact q
        · exact absurd q c
      · exact h1 z hz
theorem sortT_sorted : ∀ xs, (sortT xs).Pairwise (fun a b => leL a b = true)
  | [] => List.Pairwise.nil
  | x :: xs => insT_sorted x (sortT_sorted xs)
theorem sortT_uniq {ns ms : List (List Int)} (p : ms.Perm ns) (o : ms.Pairwise (fun a b => leL a b = true)) : ms = sortT ns :=
  List.Perm.eq_of_pairwise (le := fun a b => leL a b = true) (fun a b _ _ x y => leL_antisymm a b x y) o (sortT_sorted ns) (p.trans (sortT_perm ns).symm)
theorem dataLe_tups : PySem.W.dataLe false tupI = leL := by
  funext a b
  rw [PySem.W.dataLe_eq]
  show (!PySem.W.dataLt (tupI b) (tupI a)) = _
  unfold tupI
  rw [PySem.W.dataLt_tuple]
  show (!PySem.W.rowLt (b.map .int) (a.map .int)) = _
  rw [PySem.W.dataLt_ints, leL_lt]
theorem mergeSort_tups (ns : List (List Int)) : ns.mergeSort (PySem.W.dataLe false tupI) = sortT ns := by
  rw [dataLe_tups]
  exact sortT_uniq (List.mergeSort_perm ns _) (List.pairwise_mergeSort (fun a b c h h' => leL_trans a b c h h') (fun a b => by simpa using leL_total a b) ns)
theorem mergeSort_ints (ns : List Int) : ns.mergeSort (PySem.W.dataLe false PyData.int) = sortI ns := by
  have e := PySem.W.dataLe_int (β := Int) fun i => i
  show ns.mergeSort (PySem.W.dataLe false fun b => PyData.int b) = _
  rw [e]; rfl
theorem intsD_map : ∀ {xs : List D} {ns : List Int}, intsD xs = some ns → xs = ns.map .int
  | [], _, e => by simp [intsD] at e; subst e; rfl
  | x :: xs, ns, e => by
    cases x with
    | int i =>
      simp only [intsD] at e
      cases q : intsD xs with
      | none => rw [q] at e; cases e
      | some is => rw [q] at e; cases e; rw [intsD_map q]; rfl
    | _ => simp [intsD] at e
theorem tupsD_map : ∀ {xs : List D} {ns : List (List Int)}, tupsD xs = some ns → xs = ns.map tupI
  | [], _, e => by simp [tupsD] at e; subst e; rfl
  | x :: xs, ns, e => by
    cases x with
    | tuple y =>
      simp only [tupsD] at e
      cases q1 : intsD y with
      | none => rw [q1] at e; cases e
      | some m =>
        rw [q1] at e
        simp only at e
        cases q : tupsD xs with
        | none => rw [q] at e; cases e
        | some is => rw [q] at e; cases e; rw [tupsD_map q, intsD_map q1]; rfl
    | _ => simp [tupsD] at e
theorem Reps.each {β : Type} {F : Hp} {enc : β → D} : ∀ {vs : List V} {bs : List β}, Reps F vs (bs.map enc) → PySem.W.EachIs (fun v b => Rep F v (enc b)) vs bs
  | _, [], h => by cases h; exact .nil
  | _, b :: bs, h => by cases h with | cons a t => exact .cons a (Reps.each t)
theorem Reps.ofEach {β : Type} {F : Hp} {enc : β → D} : ∀ {vs : List V} {bs : List β}, PySem.W.EachIs (fun v b => Rep F v (enc b)) vs bs → Reps F vs (bs.map enc)
  | _, _, .nil => .nil
  | _, _, .cons a t => .cons a (Reps.ofEach t)
theorem rSort_of {K : PySem.W.Frag} {β : Type} {enc : β → D} {bs : List β} {F H : Hp} {a : Addr} {vs : List V} {Q : VK} (hs : SqL K H a vs ∨ SqT K H a vs) (ra : Reps F vs (bs.map enc)) (sF : Same F H)
    (q : ∀ p ys, Reps F ys ((bs.mergeSort (PySem.W.dataLe false enc)).map enc) → H p = none → Q (.ref p) (upd H p (.lst ys))) : rSortX K enc (fun v b => Rep F v (enc b)) [V.ref a] H Q :=
  ⟨a, vs, bs, rfl, hs, ra.each, fun v b p => p.dp sF, fun ys p ey hp => q p ys (Reps.ofEach ey) hp⟩
theorem sort_one (hu : X.A.units + 65 < cLine) {F : Hp} {pins : List (Addr × Obj)} {s : Shared} {σ : L2.St} {H : Hp} {a : Addr} {us : List Value} {Q : VK} (I : Inv X pins σ H s) (r : Vals [V.ref a] us) {vs : List V} {ys : List D} {d : D} {res : U}
    (hs : SqL X.K H a vs ∨ SqT X.K H a vs) (ra : Reps F vs ys) (sF : Same F H) (ed : seqD d = some ys) (e : biD .sorted [d] = some res) (q : ∀ v F' H', Grow F H F' H' → RN H F' H' v res → Q v H') :
    wpAny (model X.prog X.w) X.A (call (.builtin "sorted") us) (fun v s1 => ∃ x H1, Inv X pins σ H1 s1 ∧ RelV x v ∧ Q x H1) X.xe s := by
  simp only [biD, ed] at e
  cases g : intsD ys with
  | some ns =>
    rw [g] at e; cases e
    cases intsD_map g
    refine cr_sortX (enc := PyData.int) (P := fun v b => Rep F v (.int b)) (fun _ _ => rfl) (fun A s vs bs hu e => PySem.W.SortsAt.ints e hu) hu pins s σ H _ us Q I r (rSort_of hs ra sF fun p zs rz hp => ?_)
    rw [mergeSort_ints] at rz
    exact q _ _ _ (Grow.own sF hp) ⟨p, _, rfl, hp, upd_same, noneF sF hp, rz⟩
  | none =>
    rw [g] at e
    simp only at e
    cases g2 : tupsD ys with
    | none => rw [g2] at e; cases e
    | some ts =>
      rw [g2] at e; cases e
      cases tupsD_map g2
      refine cr_sortX (enc := tupI) (P := fun v b => Rep F v (tupI b)) (fun b b' => by show PySem.W.alikeAll _ _ = true; exact PySem.W.alike_ints b b') (fun A s vs bs hu e => PySem.W.SortsAt.tups e hu) hu pins s σ H _ us Q I r (rSort_of hs ra sF fun p zs rz hp => ?_)
      rw [mergeSort_tups] at rz
      exact q _ _ _ (Grow.own sF hp) ⟨p, _, rfl, hp, upd_same, noneF sF hp, rz⟩
theorem call_bi (b : BI) (ok : biOk b = true) (hc : X.calm = true) (hu : X.A.units + 65 < cLine) : CallR X (biIn b) (rBi b) := by
  intro pins s σ H xs us Q I r h
  obtain ⟨F, ds, res, sF, hd, e, c, q⟩ := h
  match b, ds, e, c, hd, ok with
  | .len, [.list ys], e, _, hd, _ =>
    obtain ⟨x, rfl, h1⟩ := hd.one
    obtain ⟨a, vs, rfl, ha, ra⟩ := h1.lst sF
    cases e
    exact call_len_seq pins s σ H _ us Q I r ⟨a, vs, rfl, .inl (SqL.of ha), q _ F H (.refl sF) (by rw [ra.length]; exact .int _)⟩
  | .len, [.tuple ys], e, _, hd, _ =>
    obtain ⟨x, rfl, h1⟩ := hd.one
    obtain ⟨a, vs, rfl, ha, fa, ra⟩ := h1.tup sF
    cases e
    exact call_len_seq pins s σ H _ us Q I r ⟨a, vs, rfl, .inr (SqT.of ha), q _ F H (.refl sF) (by rw [ra.length]; exact .int _)⟩
  | .len, [.str y], e, c, hd, _ =>
    obtain ⟨x, rfl, h1⟩ := hd.one
    cases h1.str
    cases e
    exact call_len_str pins s σ H _ us Q I r ⟨_, rfl, by rw [← limLine]; exact c, q _ F H (.refl sF) (.int _)⟩
  | .abs, [.int i], e, _, hd, _ =>
    obtain ⟨x, rfl, h1⟩ := hd.one
    cases h1.int
    cases e
    exact call_abs pins s σ H _ us Q I r ⟨_, rfl, q _ F H (.refl sF) (.int _)⟩
  | .int1, [.int i], e, _, hd, _ =>
    obtain ⟨x, rfl, h1⟩ := hd.one
    cases h1.int
    cases e
    exact call_int1 pins s σ H _ us Q I r (.inl ⟨_, rfl, q _ F H (.refl sF) (.int _)⟩)
  | .int1, [.bool i], e, _, hd, _ =>
    obtain ⟨x, rfl, h1⟩ := hd.one
    cases h1.bl
    cases e
    exact call_int1 pins s σ H _ us Q I r (.inr ⟨_, rfl, q _ F H (.refl sF) (.int _)⟩)
  | .tup1, [.list ys], e, _, hd, _ =>
    obtain ⟨x, rfl, h1⟩ := hd.one
    obtain ⟨a, vs, rfl, ha, ra⟩ := h1.lst sF
    cases e
    exact call_tuple_of pins s σ H _ us Q I r ⟨a, vs, rfl, .inl ⟨SqL.of ha, fun p hp => q _ _ _ (Grow.froz sF hp) (.tup upd_same (ra.mono (same_upd (noneF sF hp))))⟩⟩
  | .tup1, [.tuple ys], e, _, hd, _ =>
    obtain ⟨x, rfl, h1⟩ := hd.one
    obtain ⟨a, vs, rfl, ha, fa, ra⟩ := h1.tup sF
    cases e
    exact call_tuple_of pins s σ H _ us Q I r ⟨a, vs, rfl, .inr ⟨SqT.of ha, q _ F H (.refl sF) (.tup fa ra)⟩⟩
  | .lst1, [.list ys], e, _, hd, _ =>
    obtain ⟨x, rfl, h1⟩ := hd.one
    obtain ⟨a, vs, rfl, ha, ra⟩ := h1.lst sF
    cases e
    exact call_list_of pins s σ H _ us Q I r ⟨a, vs, rfl, .inl (SqL.of ha), fun p hp => q _ _ _ (Grow.own sF hp) ⟨p, _, rfl, hp, upd_same, noneF sF hp, ra⟩⟩
  | .lst1, [.tuple ys], e, _, hd, _ =>
    obtain ⟨x, rfl, h1⟩ := hd.one
    obtain ⟨a, vs, rfl, ha, fa, ra⟩ := h1.tup sF
    cases e
    exact call_list_of pins s σ H _ us Q I r ⟨a, vs, rfl, .inr (SqT.of ha), fun p hp => q _ _ _ (Grow.own sF hp) ⟨p, _, rfl, hp, upd_same, noneF sF hp, ra⟩⟩
  | .sorted, ds, e, c, hd, _ =>
    obtain ⟨ys, rfl | rfl⟩ := bi_sorted_seq e
    · obtain ⟨x, rfl, h1⟩ := hd.one
      obtain ⟨a, vs, rfl, ha, ra⟩ := h1.lst sF
      exact sort_one hu I r (.inl (SqL.of ha)) ra sF rfl e q
    · obtain ⟨x, rfl, h1⟩ := hd.one
      obtain ⟨a, vs, rfl, ha, fa, ra⟩ := h1.tup sF
      exact sort_one hu I r (.inr (SqT.of ha)) ra sF rfl e q
  | .sum, ds, e, c, hd, _ =>
    obtain ⟨ys, rfl | ⟨rfl, hns⟩⟩ := bi_one_list (by simp) e c
    · obtain ⟨x, rfl, h1⟩ := hd.one
      obtain ⟨a, vs, rfl, ha, ra⟩ := h1.lst sF
      simp only [biD, seqD] at e
      cases g : intsD ys with
      | none => rw [g] at e; cases e
      | some ns =>
        rw [g] at e; cases e
        have := ra.ints g
        subst this
        exact cr_sum hc pins s σ H _ us Q I r ⟨a, ns, rfl, SqL.of ha, q _ F H (.refl sF) (.int _)⟩
    · obtain ⟨x, rfl, h1⟩ := hd.one
      obtain ⟨a, vs, rfl, ha, fa, ra⟩ := h1.tup sF
      simp only [biD, seqD] at e
      cases g : intsD ys with
      | none => rw [g] at e; cases e
      | some ns =>
        rw [g] at e; cases e
        have := ra.ints g
        subst this
        exact cr_sumT hc pins s σ H _ us Q I r ⟨a, ns, rfl, SqT.of ha, q _ F H (.refl sF) (.int _)⟩
  | .max1, ds, e, c, hd, _ =>
    obtain ⟨ys, rfl | ⟨rfl, hns⟩⟩ := bi_one_list (by simp) e c
    · obtain ⟨x, rfl, h1⟩ := hd.one
      obtain ⟨a, vs, rfl, ha, ra⟩ := h1.lst sF
      simp only [biD, seqD] at e
      cases g : intsD ys with
      | none => rw [g] at e; cases e
      | some ns =>
        rw [g] at e; cases e
        have := ra.ints g
        subst this
        have c' : 0 < ns.length := by rw [intsD_length g]; exact c
        refine cr_max hc pins s σ H _ us Q I r ⟨a, ns, rfl, SqL.of ha, c', fun m hm hg => ?_⟩
        have em : m = maxI ns := Int.le_antisymm (maxI_ge ns m hm) (hg _ (maxI_mem ns c'))
        rw [em]
        exact q _ F H (.refl sF) (.int _)
    · obtain ⟨x, rfl, h1⟩ := hd.one
      obtain ⟨a, vs, rfl, ha, fa, ra⟩ := h1.tup sF
      simp only [biD, seqD] at e
      cases g : intsD ys with
      | none => rw [g] at e; cases e
      | some ns =>
        rw [g] at e; cases e
        have := ra.ints g
        subst this
        have c' : 0 < ns.length := by rw [intsD_length g]; exact c
        refine cr_maxT hc pins s σ H _ us Q I r ⟨a, ns, rfl, SqT.of ha, c', fun m hm hg => ?_⟩
        have em : m = maxI ns := Int.le_antisymm (maxI_ge ns m hm) (hg _ (maxI_mem ns c'))
        rw [em]
        exact q _ F H (.refl sF) (.int _)
  | .min1, ds, e, c, hd, _ =>
    obtain ⟨ys, rfl | ⟨rfl, hns⟩⟩ := bi_one_list (by simp) e c
    · obtain ⟨x, rfl, h1⟩ := hd.one
      obtain ⟨a, vs, rfl, ha, ra⟩ := h1.lst sF
      simp only [biD, seqD] at e
      cases g : intsD ys with
      | none => rw [g] at e; cases e
      | some ns =>
        rw [g] at e; cases e
        have := ra.ints g
        subst this
        have c' : 0 < ns.length := by rw [intsD_length g]; exact c
        refine cr_min hc pins s σ H _ us Q I r ⟨a, ns, rfl, SqL.of ha, c', fun m hm hg => ?_⟩
        have em : m = minI ns := Int.le_antisymm (hg _ (minI_mem ns c')) (minI_le ns m hm)
        rw [em]
        exact q _ F H (.refl sF) (.int _)
    · obtain ⟨x, rfl, h1⟩ := hd.one
      obtain ⟨a, vs, rfl, ha, fa, ra⟩ := h1.tup sF
      simp only [biD, seqD] at e
      cases g : intsD ys with
      | none => rw [g] at e; cases e
      | some ns =>
        rw [g] at e; cases e
        have := ra.ints g
        subst this
        have c' : 0 < ns.length := by rw [intsD_length g]; exact c
        refine cr_minT hc pins s σ H _ us Q I r ⟨a, ns, rfl, SqT.of ha, c', fun m hm hg => ?_⟩
        have em : m = minI ns := Int.le_antisymm (hg _ (minI_mem ns c')) (minI_le ns m hm)
        rw [em]
        exact q _ F H (.refl sF) (.int _)
  | .max2, [.int i, .int j], e, _, hd, _ =>
    obtain ⟨x, y, rfl, h1, h2⟩ := hd.two
    cases h1.int
    cases h2.int
    cases e
    exact call_max2 hc pins s σ H _ us Q I r ⟨_, _, rfl, q _ F H (.refl sF) (.int _)⟩
  | .min2, [.int i, .int j], e, _, hd, _ =>
    obtain ⟨x, y, rfl, h1, h2⟩ := hd.two
    cases h1.int
    cases h2.int
    cases e
    exact call_min2 hc pins s σ H _ us Q I r ⟨_, _, rfl, q _ F H (.refl sF) (.int _)⟩
  | .lcm, [.int i, .int j], e, c, hd, _ =>
    obtain ⟨x, y, rfl, h1, h2⟩ := hd.two
    cases h1.int
    cases h2.int
    cases e
    exact cr_lcm pins s σ H _ us Q I r ⟨_, _, rfl, c.1, c.2, q _ F H (.refl sF) (.int _)⟩
  | .str1, [.int i], e, c, hd, _ =>
    obtain ⟨x, rfl, h1⟩ := hd.one
    cases h1.int
    cases e
    exact call_str_int pins s σ H _ us Q I r ⟨_, rfl, c, q _ F H (.refl sF) (.str _)⟩
  | .gcd, [.int i, .int j], e, _, hd, _ =>
    obtain ⟨x, y, rfl, h1, h2⟩ := hd.two
    cases h1.int
    cases h2.int
    cases e
    exact cr_gcd pins s σ H _ us Q I r ⟨_, _, rfl, q _ F H (.refl sF) (.int _)⟩
end
end GM

set_option maxRecDepth 100000
/-! GM: the text against the small language (chk); expressions keep what wpE says -/
namespace GM
open PySem PySem.Spec PyProof.Rows L2

/-! ### mono -/
theorem optP_mono {α : Type} {o : Option α} {Q Q' : α → Prop} (h : optP o Q) (f : ∀ a, Q a → Q' a) : optP o Q' := by
  obtain ⟨a, e, q⟩ := optP_get h; exact optP_of e (f a q)
theorem brP_mono {b : Bool} {P P' Q Q' : Prop} (h : brP b P Q) (f : P → P') (g : Q → Q') : brP b P' Q' := by
  obtain ⟨h1, h2⟩ := brP_get h; exact brP_of (fun e => f (h1 e)) fun e => g (h2 e)
theorem envP_mono {e : Env} {Q Q' : Env → Prop} (h : envP e Q) (f : ∀ e, Q e → Q' e) : envP e Q' := envP_of rfl (f _ (envP_get h))
theorem ckP_mono {c Q Q' : Prop} (h : ckP c Q) (f : Q → Q') : ckP c Q' := by
  obtain ⟨h1, h2⟩ := ckP_get h; exact ckP_of h1 (f h2)
theorem callP_mono {o : Option FS} {us : List U} {Qx Qx' : EX → List U → Prop} {Q Q' : U → List U → Prop} (h : callP o us Qx Q) (fx : ∀ x us', Qx x us' → Qx' x us') (f : ∀ r us', Q r us' → Q' r us') : callP o us Qx' Q' := by
  obtain ⟨S, e, a, ea, p, q, qx⟩ := callP_get h
  exact callP_of S e a ea p (fun r us' z => f _ _ (q r us' z)) fun x us' z => fx _ _ (qx x us' z)
/-- a run's mono -/
def MonoE (rec : WE) : Prop := ∀ m env (Qx Qx' : QX) (Q Q' : U → Env → Prop), rec m env Qx Q → (∀ x e, Qx x e → Qx' x e) → (∀ u e, Q u e → Q' u e) → rec m env Qx' Q'
/-- a test's own nodes -/
def isTN : GM.M → Bool
  | .notv _ => true
  | .and_ _ _ => true
  | .or_ _ _ => true
  | _ => false
section
variable {rec : WE} (M : MonoE rec)
include M
theorem wpR_mono {m : GM.M} {env : Env} {Qx Qx' : QX} {Q Q' : Op → Env → Prop} (h : wpR rec m env Qx Q) (fx : ∀ x e, Qx x e → Qx' x e) (f : ∀ o e, Q o e → Q' o e) : wpR rec m env Qx' Q' := by
  unfold wpR at h ⊢
  cases m <;> first
    | exact optP_mono h fun _ q => f _ _ q
    | exact M _ _ _ _ _ _ h fx fun _ _ q => optP_mono q fun _ q => f _ _ q
theorem wpOs_mono {fx : Prop} : ∀ {ms : List GM.M} {env : Env} {Qx Qx' : QX} {Q Q' : List Op → Env → Prop}, wpOs rec ms env Qx Q → (∀ x e, Qx x e → Qx' x e) → (∀ o e, Q o e → Q' o e) → wpOs rec ms env Qx' Q'
  | [], _, _, _, _, _, h, _, f => f _ _ h
  | m :: ms, env, Qx, Qx', Q, Q', h, fx', f => by
    rw [wpOs_cons] at h ⊢
    exact wpR_mono (m := m) M h fx' fun _ _ h1 => wpOs_mono (fx := fx) h1 fx' fun _ _ q => f _ _ q
theorem wpVs_mono : ∀ {ms : List GM.M} {env : Env} {Qx Qx' : QX} {Q Q' : List D → Env → Prop}, wpVs rec ms env Qx Q → (∀ x e, Qx x e → Qx' x e) → (∀ o e, Q o e → Q' o e) → wpVs rec ms env Qx' Q'
  | [], _, _, _, _, _, h, _, f => f _ _ h
  | m :: ms, _, _, _, _, _, h, fx', f => M _ _ _ _ _ _ h fx' fun _ _ h1 => optP_mono h1 fun _ h2 => wpVs_mono h2 fx' fun _ _ q => f _ _ q
theorem wpAs_mono : ∀ {ms : List GM.M} {env : Env} {Qx Qx' : QX} {Q Q' : List Op → Env → Prop}, wpAs rec ms env Qx Q → (∀ x e, Qx x e → Qx' x e) → (∀ o e, Q o e → Q' o e) → wpAs rec ms env Qx' Q'
  | [], _, _, _, _, _, h, _, f => f _ _ h
  | m :: ms, _, _, _, _, _, h, fx', f => by
    cases m <;> first
      | exact optP_mono h fun _ h1 => wpAs_mono h1 fx' fun _ _ q => f _ _ q
      | exact M _ _ _ _ _ _ h fx' fun _ _ h1 => optP_mono h1 fun _ h2 => wpAs_mono h2 fx' fun _ _ q => f _ _ q
theorem wpTl_mono {m : GM.M} {env : Env} {Qx Qx' : QX} {Q Q' : Bool → Env → Prop} (h : wpR rec m env Qx fun o env1 => optP (rdv env1 o) fun d => optP (truD d) fun b => ckP (truC d) (Q b env1)) (fx : ∀ x e, Qx x e → Qx' x e) (f : ∀ o e, Q o e → Q' o e) :
    wpR rec m env Qx' fun o env1 => optP (rdv env1 o) fun d => optP (truD d) fun b => ckP (truC d) (Q' b env1) := wpR_mono M h fx fun _ _ h1 => optP_mono h1 fun _ h2 => optP_mono h2 fun _ h3 => ckP_mono h3 fun h4 => f _ _ h4
omit M in
theorem wpT_leaf {n : Nat} {m : GM.M} {env : Env} {Qx : QX} {Q : Bool → Env → Prop} (hm : isTN m = false) : wpT rec (n + 1) m env Qx Q = wpR rec m env Qx fun o env1 => optP (rdv env1 o) fun d => optP (truD d) fun b => ckP (truC d) (Q b env1) := by
  cases m <;> first | rfl | cases hm
theorem wpT_mono : ∀ {n : Nat} {m : GM.M} {env : Env} {Qx Qx' : QX} {Q Q' : Bool → Env → Prop}, wpT rec n m env Qx Q → (∀ x e, Qx x e → Qx' x e) → (∀ o e, Q o e → Q' o e) → wpT rec n m env Qx' Q'
  | 0, _, _, _, _, _, _, h, _, _ => h
  | n + 1, m, _, _, _, _, _, h, fx, f => by
    by_cases hm : isTN m = false
    · rw [wpT_leaf hm] at h ⊢
      exact wpTl_mono M h fx f
    · cases m with
      | notv a => exact wpT_mono (n := n) (m := a) h fx fun _ _ q => f _ _ q
      | and_ a b => exact wpT_mono (n := n) (m := a) h fx fun _ _ q => brP_mono q (fun q => wpT_mono (n := n) (m := b) q fx f) fun q => f _ _ q
      | or_ a b => exact wpT_mono (n := n) (m := a) h fx fun _ _ q => brP_mono q (fun q => f _ _ q) fun q => wpT_mono (n := n) (m := b) q fx f
      | _ => exact absurd rfl hm
end
theorem bindT_mono : ∀ {n : Nat} {t : T} {d : D} {env : Env} {Q Q' : Env → Prop}, bindT n t d env Q → (∀ e, Q e → Q' e) → bindT n t d env Q'
  | 0, _, _, _, _, _, h, _ => h
  | n + 1, t, d, env, Q, Q', h, f => by
    cases t with
    | nm i => exact ckP_mono h (f _)
    | tp ts =>
      cases d with
      | tuple ds => exact go n h f
      | _ => exact h
where go (n : Nat) : ∀ {ts : List T} {ds : List D} {env : Env} {Q Q' : Env → Prop}, bindT.go (bindT n) ts ds env Q → (∀ e, Q e → Q' e) → bindT.go (bindT n) ts ds env Q'
  | [], [], _, _, _, h, f => f _ h
  | t :: ts, d :: ds, _, _, _, h, f => bindT_mono (n := n) h fun _ h1 => go n h1 f
  | [], _ :: _, _, _, _, h, _ => h
  | _ :: _, [], _, _, _, h, _ => h
theorem compP_mono {step step' : D → Env → (List D → Env → Prop) → Prop} (fs : ∀ x e (n n' : List D → Env → Prop), step x e n → (∀ d e, n d e → n' d e) → step' x e n') :
    ∀ {xs : List D} {env : Env} {acc : List D} {Q Q' : List D → Env → Prop}, compP step xs env acc Q → (∀ d e, Q d e → Q' d e) → compP step' xs env acc Q' := by
  have : ∀ {xs : List D} {env : Env} {acc : List D} {Q Q' : List D → Env → Prop}, compL step xs env acc Q → (∀ d e, Q d e → Q' d e) → compL step' xs env acc Q' := by
    intro xs
    induction xs with
    | nil => intro env acc Q Q' h f; exact f _ _ h
    | cons x xs ih => intro env acc Q Q' h f; exact fs _ _ _ _ h fun d e q => ih q f
  intro xs env acc Q Q' h f
  unfold compP at h ⊢
  exact this h f
theorem wpTs_mono {tst : GM.M → Env → QX → (Bool → Env → Prop) → Prop} (ht : ∀ m env (Qx Qx' : QX) (Q Q' : Bool → Env → Prop), tst m env Qx Q → (∀ x e, Qx x e → Qx' x e) → (∀ o e, Q o e → Q' o e) → tst m env Qx' Q')
    {ms : List GM.M} {env : Env} {Qx Qx' : QX} {Q Q' : Bool → Env → Prop} (h : wpTs tst ms env Qx Q) (fx : ∀ x e, Qx x e → Qx' x e) (f : ∀ o e, Q o e → Q' o e) : wpTs tst ms env Qx' Q' := by
  cases ms with
  | nil => exact f _ _ h
  | cons c r => exact ht _ _ _ _ _ _ h fx f
theorem wpI_mono {rec : WE} (M : MonoE rec) {m : GM.M} {env : Env} {Qx Qx' : QX} {Q Q' : List D → Env → Prop} (h : wpI rec m env Qx Q) (fx : ∀ x e, Qx x e → Qx' x e) (f : ∀ o e, Q o e → Q' o e) : wpI rec m env Qx' Q' := by
  cases m with
  | irng as =>
    refine wpOs_mono M (fx := True) h fx fun os e h1 => optP_mono h1 fun ds h2 => ?_
    split at h2
    · exact ckP_mono h2 (f _ _)
    · exact ckP_mono h2 (f _ _)
    · exact ckP_mono h2 (f _ _)
    · exact h2.elim
  | ienum a => exact M _ _ _ _ _ _ h fx fun _ _ h1 => optP_mono h1 fun _ h2 => f _ _ h2
  | izip a b => exact M _ _ _ _ _ _ h fx fun _ _ h1 => optP_mono h1 fun _ h1 => optP_mono h1 fun _ h2 => M _ _ _ _ _ _ h2 fx fun _ _ h3 => optP_mono h3 fun _ h3 => optP_mono h3 fun _ h4 => ckP_mono h4 (f _ _)
  | irev a => exact M _ _ _ _ _ _ h fx fun _ _ h1 => optP_mono h1 fun _ h2 => f _ _ h2
  | _ => exact M _ _ _ _ _ _ h fx fun _ _ h1 => optP_mono h1 fun _ h2 => f _ _ h2
theorem wpP_mono {rec : WE} (M : MonoE rec) {o : Option GM.M} {env : Env} {Qx Qx' : QX} {Q Q' : Option Int → Env → Prop} (h : wpE.wpP rec o env Qx Q) (fx : ∀ x e, Qx x e → Qx' x e) (f : ∀ o e, Q o e → Q' o e) : wpE.wpP rec o env Qx' Q' := by
  unfold wpE.wpP at h ⊢
  cases o with
  | none => exact f _ _ h
  | some m => exact wpR_mono (m := m) M h fx fun _ _ h1 => optP_mono h1 fun _ h2 => optP_mono h2 fun _ h3 => f _ _ h3
theorem wpSl_mono {rec : WE} (M : MonoE rec) {a : GM.M} {lo hi : Option GM.M} {env : Env} {Qx Qx' : QX} {Q Q' : U → Env → Prop} (h : wpE.wpSl rec a lo hi env Qx Q) (fx : ∀ x e, Qx x e → Qx' x e) (f : ∀ o e, Q o e → Q' o e) : wpE.wpSl rec a lo hi env Qx' Q' := by
  unfold wpE.wpSl at h ⊢
  exact wpR_mono (m := a) M h fx fun _ _ h1 => wpP_mono (o := lo) M h1 fx fun _ _ h2 => wpP_mono (o := hi) M h2 fx fun _ _ h3 => optP_mono h3 fun _ h4 => optP_mono h4 fun _ h5 => f _ _ h5
theorem wpE_mono (Γ : Nat → Option FS) : ∀ n, MonoE (wpE Γ n)
  | 0 => fun _ _ _ _ _ _ h _ _ => h
  | n + 1 => by
    have M := wpE_mono Γ n
    intro m env Qx Qx' Q Q' h fx f
    have MT : ∀ (m : GM.M) (env : Env) (Qx Qx' : QX) (Q Q' : Bool → Env → Prop), wpT (wpE Γ n) n m env Qx Q → (∀ x e, Qx x e → Qx' x e) → (∀ o e, Q o e → Q' o e) → wpT (wpE Γ n) n m env Qx' Q' := fun _ _ _ _ _ _ h fx f => wpT_mono M h fx f
    rw [wpE_succ] at h ⊢
    unfold wpE1 at h ⊢
    cases m with
    | var i => exact optP_mono h fun _ q => f _ _ q
    | con d => exact f _ _ h
    | refv i => exact h
    | bin op a b => exact wpR_mono (m := a) M h fx fun _ _ h1 => wpR_mono (m := b) M h1 fx fun _ _ h2 => optP_mono h2 fun _ h3 => optP_mono h3 fun _ h4 => optP_mono h4 fun _ h5 => ckP_mono h5 (f _ _)
    | neg a => exact wpR_mono (m := a) M h fx fun _ _ h1 => optP_mono h1 fun _ h2 => optP_mono h2 fun _ h3 => f _ _ h3
    | cmp op a b => exact wpR_mono (m := a) M h fx fun _ _ h1 => wpR_mono (m := b) M h1 fx fun _ _ h2 => optP_mono h2 fun _ h3 => optP_mono h3 fun _ h4 => optP_mono h4 fun _ h5 => ckP_mono h5 (f _ _)
    | chain o1 o2 a b c =>
      exact wpR_mono (m := a) M h fx fun _ _ h1 => wpR_mono (m := b) M h1 fx fun _ _ h2 => optP_mono h2 fun _ h3 => optP_mono h3 fun _ h4 => optP_mono h4 fun _ h5 => ckP_mono h5 fun h6 => brP_mono h6
        (fun h7 => wpR_mono (m := c) M h7 fx fun _ _ h8 => optP_mono h8 fun _ h9 => optP_mono h9 fun _ h10 => optP_mono h10 fun _ h11 => ckP_mono h11 (f _ _)) (f _ _)
    | chain3 o1 o2 o3 a b c d =>
      exact wpR_mono (m := a) M h fx fun _ _ h1 => wpR_mono (m := b) M h1 fx fun _ _ h2 => optP_mono h2 fun _ h3 => optP_mono h3 fun _ h4 => optP_mono h4 fun _ h5 => ckP_mono h5 fun h6 => brP_mono h6
        (fun h7 => wpR_mono (m := c) M h7 fx fun _ _ h8 => optP_mono h8 fun _ h9 => optP_mono h9 fun _ h10 => optP_mono h10 fun _ h11 => ckP_mono h11 fun h12 => brP_mono h12
          (fun h7 => wpR_mono (m := d) M h7 fx fun _ _ h8 => optP_mono h8 fun _ h9 => optP_mono h9 fun _ h10 => optP_mono h10 fun _ h11 => ckP_mono h11 (f _ _)) (f _ _)) (f _ _)
    | and_ a b => exact M _ _ _ _ _ _ h fx fun _ _ h1 => optP_mono h1 fun _ h2 => optP_mono h2 fun _ h3 => ckP_mono h3 fun h4 => brP_mono h4 (fun h5 => M _ _ _ _ _ _ h5 fx f) (f _ _)
    | or_ a b => exact M _ _ _ _ _ _ h fx fun _ _ h1 => optP_mono h1 fun _ h2 => optP_mono h2 fun _ h3 => ckP_mono h3 fun h4 => brP_mono h4 (f _ _) fun h5 => M _ _ _ _ _ _ h5 fx f
    | notv a => exact wpR_mono (m := a) M h fx fun _ _ h1 => optP_mono h1 fun _ h2 => optP_mono h2 fun _ h3 => ckP_mono h3 (f _ _)
    | ife c a b => exact wpT_mono (m := c) M h fx fun _ _ h1 => brP_mono h1 (fun h2 => M _ _ _ _ _ _ h2 fx f) fun h2 => M _ _ _ _ _ _ h2 fx f
    | tup es => exact wpVs_mono (ms := es) M h fx fun _ _ h1 => f _ _ h1
    | lst es => exact wpVs_mono (ms := es) M h fx fun _ _ h1 => f _ _ h1
    | idx a i => exact wpR_mono (m := a) M h fx fun _ _ h1 => wpR_mono (m := i) M h1 fx fun _ _ h2 => optP_mono h2 fun _ h3 => optP_mono h3 fun _ h4 => optP_mono h4 fun _ h5 => f _ _ h5
    | slc a lo hi =>
      have go : ∀ {a : GM.M}, wpE.wpSl (wpE Γ n) a lo hi env Qx Q → wpE.wpSl (wpE Γ n) a lo hi env Qx' Q' := fun h => wpSl_mono M h fx f
      cases a with
      | var i =>
        dsimp only at h ⊢
        split at h
        · split at h
          · exact f _ _ h
          · exact h.elim
        · exact go h
      | _ => exact go h
    | rev a => exact wpR_mono (m := a) M h fx fun _ _ h1 => optP_mono h1 fun _ h2 => optP_mono h2 fun _ h3 => f _ _ h3
    | call g as => exact wpAs_mono (ms := as) M h fx fun _ _ h1 => optP_mono h1 fun _ h2 => ckP_mono h2 fun h3 => callP_mono h3 (fun _ _ q => fx _ _ q) fun _ _ q => envP_mono q (f _)
    | callk g as ks perm => exact wpAs_mono (ms := as) M h fx fun _ _ h1 => wpAs_mono (ms := ks) M h1 fx fun _ _ h2 => optP_mono h2 fun _ h3 => optP_mono h3 fun _ h4 => ckP_mono h4 fun h5 => callP_mono h5 (fun _ _ q => fx _ _ q) fun _ _ q => envP_mono q (f _)
    | bi b as => exact wpOs_mono (ms := as) M (fx := True) h fx fun _ _ h1 => optP_mono h1 fun _ h2 => optP_mono h2 fun _ h3 => ckP_mono h3 (f _ _)
    | mth mn i as => exact optP_mono h fun _ h0 => wpVs_mono (ms := as) M h0 fx fun _ _ h1 => optP_mono h1 fun _ h2 => optP_mono h2 fun _ h3 => ckP_mono h3 (f _ _)
    | mtd md i as => exact optP_mono h fun _ h1 => ckP_mono h1 fun h2 => wpVs_mono (ms := as) M h2 fx fun _ _ h3 => optP_mono h3 fun _ h4 => optP_mono h4 fun _ h5 => f _ _ h5
    | comp el t it ifs own =>
      refine wpI_mono (m := it) M h fx fun ds e1 h1 => ckP_mono h1 fun h2 => compP_mono (fun x e nn nn' hs hn => ?_) h2 fun _ _ q => f _ _ q
      exact bindT_mono hs fun _ h3 => wpTs_mono MT h3 (fun _ _ z => z) fun _ _ h4 => brP_mono h4 (fun h5 => M _ _ _ _ _ _ h5 (fun _ _ z => z) fun _ _ h6 => optP_mono h6 fun _ h7 => hn _ _ h7) fun h5 => hn _ _ h5
    | comp2 el t it ifs t2 it2 ifs2 own =>
      refine wpI_mono (m := it) M h fx fun ds e1 h1 => ckP_mono h1 fun h2 => compP_mono (fun x e nn nn' hs hn => ?_) h2 fun _ _ q => f _ _ q
      refine bindT_mono hs fun _ h3 => wpTs_mono MT h3 (fun _ _ z => z) fun _ _ h4 => brP_mono h4 (fun h5 => wpI_mono (m := it2) M h5 (fun _ _ z => z) fun _ _ h6 => ckP_mono h6 fun h6 => compP_mono (fun x e nn nn' hs hn => ?_) h6 fun _ _ h7 => hn _ _ h7) fun h5 => hn _ _ h5
      exact bindT_mono hs fun _ h3 => wpTs_mono MT h3 (fun _ _ z => z) fun _ _ h4 => brP_mono h4 (fun h5 => M _ _ _ _ _ _ h5 (fun _ _ z => z) fun _ _ h6 => optP_mono h6 fun _ h7 => hn _ _ h7) fun h5 => hn _ _ h5
    | att i k => exact h
    | irng _ => exact h
    | ienum _ => exact h
    | izip _ _ => exact h
    | irev _ => exact h
end GM

set_option maxRecDepth 100000
/-! GM: chk; expressions keep what wpE says -/
namespace GM
open PySem PySem.Spec PyProof.Rows L2

/-- what is known of the names: the slots, the scope, the names that may be stored, the defs, their parameters -/
structure CC where
  N : List Str
  sc : Scope
  st : Str → Bool
  fns : List Str
  pars : Nat → List Str
  cons : List (Str × Int)
  gcd : Bool
  lcm : Bool := false
  pats : List (Nat × Nat × List Str × List Nat) := []
  excs : List (Nat × Str × List Str) := []
  cats : List (Nat × Str) := []
  top : Bool := false
def visB (sc : Scope) (x : Str) : Bool := match sc.names.lookup x with
  | some .local => true
  | some .cell => true
  | some .free => true
  | _ => false
def glB (sc : Scope) (x : Str) : Bool := decide (sc.names.lookup x = some .globalImplicit)
def nameB (cc : CC) (i : Nat) (x : Str) : Bool := decide (cc.N[i]? = some x) && visB cc.sc x && !(x == ("__debug__" : Str)) && !(x == ("__classdict__" : Str))
def conB : D → Const → Bool
  | .none, .none => true
  | .bool a, .bool b => a == b
  | .int a, .int b => decide (a = b)
  | .str a, .str b => decide (a = b)
  | _, _ => false
def biNm : BI → Str
  | .len => "len" | .abs => "abs" | .int1 => "int" | .tup1 => "tuple" | .lst1 => "list" | .sorted => "sorted" | .sum => "sum" | .min1 => "min" | .max1 => "max" | .min2 => "min" | .max2 => "max" | .gcd => "gcd" | .lcm => "lcm" | .isi _ => "isinstance" | .rngT => "tuple" | .rngL => "list" | .str1 => "str" | .sset => "sorted"
/-- the two names of math -/
def mathOk (cc : CC) : BI → Bool
  | .gcd => cc.gcd
  | .lcm => cc.lcm
  | _ => true
def rngA (rec : M → Expr → Bool) : List M → List Expr → Bool
  | [a], [x] => rec a x
  | [a, b], [x, y] => rec a x && rec b y
  | _, _ => false
def tyNm : Nat → Str
  | 0 => "int" | 1 => "bool" | 2 => "str" | 3 => "tuple" | 4 => "list" | _ => ""
def mnNm : MN → Str
  | .append => "append" | .pop => "pop" | .popAt => "pop" | .extend => "extend" | .insert => "insert" | .reverse => "reverse"
def mdNm : MD → Str
  | .index => "index"
def gloB (cc : CC) (x : Str) : Bool := glB cc.sc x && !(x == ("__debug__" : Str))
/-- a type's name -/
def tyE (cc : CC) (t : Nat) : Expr → Bool
  | .Name x _ => decide (x = tyNm t) && gloB cc x && decide (t < 5)
  | _ => false
def tyEs (cc : CC) : List Nat → List Expr → Bool
  | [], [] => true
  | t :: ts, e :: es => tyE cc t e && tyEs cc ts es
  | _, _ => false
def tyT (cc : CC) (ts : List Nat) : Expr → Bool
  | .Tuple es _ _ => tyEs cc ts es && decide (es.length ≤ LIM)
  | t => tyEs cc ts [t]
def mnAr : MN → List Expr → Bool
  | .pop, es => es.isEmpty
  | .reverse, es => es.isEmpty
  | _, es => !es.isEmpty
def minusOne : Expr → Bool
  | .UnaryOp .USub (.Constant (.int 1) _ _) _ => true
  | _ => false
/-- a node that walks alone, as an operand -/
def chkL (rec : M → Expr → Bool) : List M → List Expr → Bool
  | [], [] => true
  | m :: ms, e :: es => rec m e && chkL rec ms es
  | _, _ => false
def chkO (rec : M → Expr → Bool) : Option M → Option Expr → Bool
  | none, none => true
  | some m, some e => rec m e
  | _, _ => false
/-- what stands behind the first operand of and, or -/
def restB (op : BoolOp) (y : Expr) (es : List Expr) (pos : Pos) : Expr := match es with
  | [] => y
  | e :: es => .BoolOp op (y :: e :: es) pos
def chkA (cc : CC) (rec : M → Expr → Bool) : List M → List Expr → Bool
  | [], [] => true
  | .refv i :: ms, .Name x _ :: es => nameB cc i x && chkA cc rec ms es
  | m :: ms, e :: es => rec m e && chkA cc rec ms es
  | _, _ => false
def isIfE : Expr → Bool
  | .IfExp .. => true
  | _ => false
def notSet : Expr → Bool
  | .Set .. => false
  | _ => true
/-- a test -/
def chkT (rec : M → Expr → Bool) : Nat → M → Expr → Bool
  | 0, _, _ => false
  | k + 1, m, e => match m with
    | .notv a => (match e with | .UnaryOp .Not x _ => chkT rec k a x | _ => false)
    | .and_ a b => (match e with | .BoolOp .And (x :: y :: es) p => chkT rec k a x && chkT rec k b (restB .And y es p) | _ => false)
    | .or_ a b => (match e with | .BoolOp .Or (x :: y :: es) p => chkT rec k a x && chkT rec k b (restB .Or y es p) | _ => false)
    | m => rec m e && !isIfE e
/-- targets -/
def chkG (cc : CC) : Nat → T → Expr → Bool
  | 0, _, _ => false
  | n + 1, t, e => match t with
    | .nm i => (match e with | .Name x _ => decide (cc.N[i]? = some x) && cc.st x | _ => false)
    | .tp ts => (match e with | .Tuple es _ _ => go (chkG cc n) ts es | _ => false)
where go (rec : T → Expr → Bool) : List T → List Expr → Bool
  | [], [] => true
  | t :: ts, e :: es => rec t e && go rec ts es
  | _, _ => false
/-- what is walked -/
def isTupE : Expr → Bool
  | .Tuple .. => true
  | _ => false
def chkI (cc : CC) (rec : M → Expr → Bool) (tg : Expr) (m : M) (e : Expr) : Bool := match m with
  | .irng as => (match e with | .Call (.Name x _) es [] _ => decide (x = "range") && gloB cc x && chkL rec as es && (decide (es.length = 1) || decide (es.length = 2)) | _ => false)
  | .ienum a => (match e with | .Call (.Name x _) [y] [] _ => decide (x = "enumerate") && gloB cc x && rec a y && isTupE tg | _ => false)
  | .izip a b => (match e with | .Call (.Name x _) [y, z] [] _ => decide (x = "zip") && gloB cc x && rec a y && rec b z && isTupE tg | _ => false)
  | .irev a => (match e with | .Call (.Name x _) [y] [] _ => decide (x = "reversed") && gloB cc x && rec a y | _ => false)
  | m => rec m e && notSet e
def ownL (N : List Str) : List Nat → List (Str × Nat)
  | [] => []
  | i :: is => (N.getD i "", i) :: ownL N is
def blkCC (cc : CC) (scope : Scope) : CC := { cc with top := false, sc := relS scope cc.sc, st := fun x => decide ((relS scope cc.sc).names.lookup x = some .local) || (decide ((relS scope cc.sc).names.lookup x = some .cell) && decide (scope.names.lookup x = some .cell)) }
/-- the tests of a clause -/
def chkF (tst : M → Expr → Bool) : List M → List Expr → Bool
  | [], [] => true
  | [c], [d] => tst c d
  | _, _ => false
def chkE : Nat → CC → M → Expr → Bool
  | 0, _, _, _ => false
  | n + 1, cc, m, e => match m with
    | .var i => (match e with | .Name x _ => nameB cc i x | _ => false)
    | .con d => (match e with
      | .Constant c _ _ => conB d c
      | .Name x _ => (match d with | .int i => gloB cc x && decide (cc.cons.lookup x = some i) | _ => false)
      | _ => false)
    | .bin op a b => (match e with | .BinOp l o r _ => decide (o = opOf op) && chkE n cc a l && chkE n cc b r | _ => false)
    | .neg a => (match e with | .UnaryOp .USub x _ => chkE n cc a x | _ => false)
    | .cmp op a b => (match e with | .Compare l [o] [r] _ => decide (o = copOf op) && chkE n cc a l && chkE n cc b r && !behindInMarks o r | _ => false)
    | .chain o1 o2 a b c => (match e with | .Compare l [p1, p2] [r1, r2] _ => decide (p1 = copOf o1) && decide (p2 = copOf o2) && chkE n cc a l && chkE n cc b r1 && chkE n cc c r2 && !lastMarks [p1, p2] [r1, r2] | _ => false)
    | .and_ a b => (match e with | .BoolOp .And (x :: y :: es) p => chkE n cc a x && chkE n cc b (restB .And y es p) | _ => false)
    | .or_ a b => (match e with | .BoolOp .Or (x :: y :: es) p => chkE n cc a x && chkE n cc b (restB .Or y es p) | _ => false)
    | .notv a => (match e with | .UnaryOp .Not x _ => chkE n cc a x | _ => false)
    | .ife c a b => (match e with | .IfExp t x y _ => chkT (chkE n cc) n c t && chkE n cc a x && chkE n cc b y | _ => false)
    | .tup es => (match e with | .Tuple xs _ _ => chkL (chkE n cc) es xs && decide (xs.length ≤ LIM) | _ => false)
    | .lst es => (match e with | .List xs _ => chkL (chkE n cc) es xs && decide (xs.length ≤ LIM) | _ => false)
    | .idx a i => (match e with | .Subscript x (.Slice ..) _ => false | .Subscript x y _ => chkE n cc a x && chkE n cc i y | _ => false)
    | .slc a lo hi => (match e with | .Subscript x (.Slice l h none _) _ => chkE n cc a x && chkO (chkE n cc) lo l && chkO (chkE n cc) hi h | _ => false)
    | .call f as => (match e with | .Call (.Name x _) es [] _ => decide (cc.fns[f]? = some x) && gloB cc x && chkA cc (chkE n cc) as es | _ => false)
    | .callk f as ks perm => (match e with | .Call (.Name x _) es kws _ => decide (cc.fns[f]? = some x) && gloB cc x && chkA cc (chkE n cc) as es && chkA cc (chkE n cc) ks (kws.map (·.value)) && kws.all (·.arg.isSome) && decide ((f, es.length, kws.filterMap (·.arg), perm) ∈ cc.pats) | _ => false)
    | .bi (.isi ts) as => (match e with
      | .Call (.Name x _) [y, t] [] _ => decide (x = "isinstance") && gloB cc x && chkL (chkE n cc) as [y] && tyT cc ts t
      | _ => false)
    | .bi .sset as => (match e with
      | .Call (.Name x _) [.Call (.Name y _) [z] [] _] [] _ => decide (x = "sorted") && decide (y = "set") && gloB cc x && gloB cc y && chkL (chkE n cc) as [z]
      | _ => false)
    | .bi .rngT as => (match e with
      | .Call (.Name x _) [.Call (.Name y _) es [] _] [] _ => decide (x = "tuple") && decide (y = "range") && gloB cc x && gloB cc y && rngA (chkE n cc) as es
      | _ => false)
    | .bi .rngL as => (match e with
      | .Call (.Name x _) [.Call (.Name y _) es [] _] [] _ => decide (x = "list") && decide (y = "range") && gloB cc x && gloB cc y && rngA (chkE n cc) as es
      | _ => false)
    | .bi b as => (match e with | .Call (.Name x _) es [] _ => decide (x = biNm b) && biOk b && mathOk cc b && gloB cc x && chkL (chkE n cc) as es && !es.isEmpty | _ => false)
    | .mth mn i as => (match e with | .Call (.Attribute (.Name y _) nm ap) es [] p => decide (nm = mnNm mn) && nameB cc i y && chkL (chkE n cc) as es && (ap.endLine == p.line) && decide (es.length < 20) && decide (mn ≠ .insert) && mnAr mn es | _ => false)
    | .comp el t it ifs own => (match e with
      | .ListComp elt [⟨tg, iter, cifs, ia⟩] scope _ => decide (ia = 0) && chkI cc (chkE n cc) tg it iter && blkC cc.N cc.sc scope (ownL cc.N own) && chkG (blkCC cc scope) n t tg && (slotsT n t).all (own.contains ·) &&
          chkF (chkT (chkE n (blkCC cc scope)) n) ifs cifs && chkE n (blkCC cc scope) el elt
      | _ => false)
    | .comp2 el t it ifs t2 it2 ifs2 own => (match e with
      | .ListComp elt [⟨tg, iter, cifs, ia⟩, ⟨tg1, iter1, cifs1, ia1⟩] scope _ => decide (ia = 0) && decide (ia1 = 0) && chkI cc (chkE n cc) tg it iter && blkC cc.N cc.sc scope (ownL cc.N own) && chkG (blkCC cc scope) n t tg && (slotsT n t).all (own.contains ·) &&
          chkF (chkT (chkE n (blkCC cc scope)) n) ifs cifs && chkI (blkCC cc scope) (chkE n (blkCC cc scope)) tg1 it2 iter1 && chkG (blkCC cc scope) n t2 tg1 && (slotsT n t2).all (own.contains ·) &&
          chkF (chkT (chkE n (blkCC cc scope)) n) ifs2 cifs1 && chkE n (blkCC cc scope) el elt
      | _ => false)
    | .mtd md i as => (match e with | .Call (.Attribute (.Name y _) nm ap) es [] p => decide (nm = mdNm md) && nameB cc i y && chkL (chkE n cc) as es && (ap.endLine == p.line) && decide (es.length < 20) && !es.isEmpty | _ => false)
    | _ => false
end GM

set_option maxRecDepth 100000
/-! GM: expressions keep what wpE says -/
namespace GM
open PySem PySem.Spec PyProof.Rows L2

def blts : List Str := ["len", "abs", "int", "tuple", "list", "sorted", "sum", "min", "max", "isinstance", "bool", "str", "range", "enumerate", "zip", "reversed", "set", "dict"]
/-- a def's promise, by its data -/
def ArgR (K : PySem.W.Frag) (F H P : Hp) : V → U → Prop
  | v, .v d => Rep F v d
  | v, .r xs => ∃ a vs, v = .ref a ∧ H a = some (.lst vs) ∧ F a = none ∧ Reps F vs xs
  | v, .s ns => ∃ a, v = .ref a ∧ SqL K P a (ns.map V.int) ∧ ns.length ≤ LIM
  | _, _ => False
def RefAt (vs : List V) (us : List U) (b : Addr) : Prop := ∃ (i : Nat) (xs : List D), us[i]? = some (.r xs) ∧ vs[i]? = some (.ref b)
open Classical in
/-- what a callee leaves alone -/
noncomputable def Prot (H : Hp) (vs : List V) (us : List U) : Hp := fun b => if RefAt vs us b then none else H b
structure After (F H F' H' : Hp) (vs : List V) (us us' : List U) : Prop where
  f : Same F F'
  le : Same F' H'
  new : ∀ b, F' b ≠ none → F b ≠ none ∨ H b = none
  keep : ∀ b o, H b = some o → ¬ RefAt vs us b → H' b = some o
  refs : ∀ (i : Nat) xs, us[i]? = some (.r xs) → ∃ ys a ws, us'[i]? = some (.r ys) ∧ vs[i]? = some (.ref a) ∧ H' a = some (.lst ws) ∧ F' a = none ∧ Reps F' ws ys
def Apart (vs : List V) (us : List U) : Prop := ∀ (i j : Nat) xs ys a, i ≠ j → us[i]? = some (.r xs) → us[j]? = some (.r ys) → vs[i]? = some (.ref a) → vs[j]? = some (.ref a) → False
def spOf (K : PySem.W.Frag) (CT : CTab) (S : FS) : Sp := fun vs H Q E => ∃ (a : S.α) (F : Hp), Same F H ∧ Paired (ArgR K F H (Prot H vs (S.args a))) vs (S.args a) ∧ Apart vs (S.args a) ∧ S.pre a ∧
  (∀ r us' v F' H', S.post a r us' → After F H F' H' vs (S.args a) us' → RN H F' H' v r → Q v H') ∧
  (∀ x us' cls d F' H', S.exc a x us' → After F H F' H' vs (S.args a) us' → XR CT F' x cls d → E cls d H')
/-- how a call with keywords binds: p's places, of the positional values and the keywords', in the parameters' order -/
def KB (K : PySem.W.Frag) (fd : FuncData) (ps : List Str) (p : Nat × Nat × List Str × List Nat) : Prop :=
  ∀ (s : Shared) (us ws : List Value), K.In s.heap → us.length = p.2.1 → ws.length = p.2.2.1.length → BindsTo s fd ⟨us, p.2.2.1.zip ws⟩ (ps.zip (p.2.2.2.filterMap fun k => (us ++ ws)[k]?))
/-- a def that stands ready to be called -/
structure FnG (X : Cx) (cc : CC) (CT : CTab) (f : Nat) (S : FS) : Prop where
  ex : ∃ (x : Str) (fa : Addr) (fd : FuncData) (ps : List Str) (k : Nat), cc.fns[f]? = some x ∧ X.mg x = some (.ref fa) ∧ PySem.W.keepIn X.K (.ref fa) = true ∧ Binds X.K fd ps [] ∧
    FnOk X.prog X.w X.K X.mg X.base (L2.CX X.prog X.w) k fa fd ps (spOf X.K CT S) ∧ Room k X.A ∧ ∀ p ∈ cc.pats, p.1 = f → KB X.K fd ps p
/-- a class's name: an own class, or a built-in one -/
def CatN (mg : Str → Option Value) (x : Str) (D : Value) : Prop := (∃ A, D = .ref A ∧ mg x = some (.ref A)) ∨ ∃ T, D = .type T ∧ mg x = none ∧ bootBuiltins x = some (.type T) ∧ x ≠ "__name__"
structure Ok (Γ : Nat → Option FS) (CT : CTab) (X : Cx) (W : WX) (cc : CC) : Prop where
  n : X.N = cc.N
  nd : X.N.Nodup
  sc : X.env.scope = cc.sc
  st : ∀ x, cc.st x = true → Loc X.env.scope x ∧ (X.fn x = true ∨ X.env.scope.names.lookup x = some .local)
  calm : X.calm = true
  tk : Takes X W
  po : PassesOwn (model X.prog X.w) X.A X.env X.xe
  un : X.A.units + 65 < cLine
  blt : ∀ x ∈ blts, X.mg x = none
  gcd : cc.gcd = true → X.mg "gcd" = some (.builtin "math.gcd")
  lcm : cc.lcm = true → X.mg "lcm" = some (.builtin "math.lcm")
  cons : ∀ x i, cc.cons.lookup x = some i → ∃ t, X.mg x = some (.int i t)
  fns : ∀ f S, Γ f = some S → FnG X cc CT f S
  full : ∀ f x, cc.fns[f]? = some x → ∃ S, Γ f = some S
  frm : cc.top = true → X.stack = X.env :: X.outer ∧ X.env.frame = some X.env.locals
  xc : ∀ c C ns, CT c = some (C, ns) → ErrC X.K C ns
  cat : ∀ d x, (d, x) ∈ cc.cats → ∃ D : Value, CatN X.mg x D ∧ ∀ c C ns, CT c = some (C, ns) → PySem.W.exmOne X.K (.ref C) D = some (subX c d) ∧ PySem.W.kitOne X.K (.ref C) D = some (subX c d)
  exs : ∀ c x ns, (c, x, ns) ∈ cc.excs → ∃ C k, CT c = some (C, ns) ∧ X.mg x = some (.ref C) ∧ PySem.W.keepIn X.K (.ref C) = true ∧ Raises X (.ref C) ∧ EX.Makes X.prog X.w X.K X.mg C ns ∧ Room (k + 1) X.A
def PX (CT : CTab) (K : PySem.W.Frag) (W : WX) (Z : Zt) (σ : L2.St) (F : Hp) : QX := fun x env' => ∀ cls d F' H', Same F F' → SR K Z F' H' σ env' → XR CT F' x cls d → W cls d σ H'
def PV (K : PySem.W.Frag) (Z : Zt) (σ : L2.St) (F : Hp) (Q : VK) : U → Env → Prop := fun u env' => ∀ v F' H', Same F F' → SR K Z F' H' σ env' → RU Z F' H' σ env' v u → Q v H'
def PO' (K : PySem.W.Frag) (Z : Zt) (σ : L2.St) (F : Hp) (Q : VK) : Op → Env → Prop := fun o env' => ∀ v F' H', Same F F' → SR K Z F' H' σ env' → RO F' σ v o → Q v H'
def PB (K : PySem.W.Frag) (Z : Zt) (σ : L2.St) (F : Hp) (Q : Bool → Hp → Prop) : Bool → Env → Prop := fun b env' => ∀ F' H', Same F F' → SR K Z F' H' σ env' → Q b H'
theorem PX.lift {CT : CTab} {K : PySem.W.Frag} {W : WX} {Z : Zt} {σ : L2.St} {F F1 : Hp} (s : Same F F1) : ∀ x e, PX CT K W Z σ F x e → PX CT K W Z σ F1 x e := fun _ _ h cls d F' H' s' => h cls d F' H' (s.trans s')
def tE (Γ : Nat → Option FS) (CT : CTab) (K : PySem.W.Frag) (W : WX) (Z : Zt) (n : Nat) (m : M) : TE := fun σ H Q => ∃ F env, SR K Z F H σ env ∧ wpE Γ n m env (PX CT K W Z σ F) (PV K Z σ F Q)
def tR (Γ : Nat → Option FS) (CT : CTab) (K : PySem.W.Frag) (W : WX) (Z : Zt) (n : Nat) (m : M) : TE := fun σ H Q => ∃ F env, SR K Z F H σ env ∧ wpR (wpE Γ n) m env (PX CT K W Z σ F) (PO' K Z σ F Q)
def tT (Γ : Nat → Option FS) (CT : CTab) (K : PySem.W.Frag) (W : WX) (Z : Zt) (n k : Nat) (m : M) : TT := fun σ H Q => ∃ F env, SR K Z F H σ env ∧ wpT (wpE Γ n) k m env (PX CT K W Z σ F) (PB K Z σ F Q)
def tOs (Γ : Nat → Option FS) (CT : CTab) (K : PySem.W.Frag) (W : WX) (Z : Zt) (n : Nat) (ms : List M) : TA := fun σ H Q => ∃ F env, SR K Z F H σ env ∧ wpOs (wpE Γ n) ms env (PX CT K W Z σ F) fun os env' => ∀ vs F' H', Same F F' → SR K Z F' H' σ env' → ROs F' σ vs os → Q vs H'
def tVs (Γ : Nat → Option FS) (CT : CTab) (K : PySem.W.Frag) (W : WX) (Z : Zt) (n : Nat) (ms : List M) : TA := fun σ H Q => ∃ F env, SR K Z F H σ env ∧ wpVs (wpE Γ n) ms env (PX CT K W Z σ F) fun ds env' => ∀ vs F' H', Same F F' → SR K Z F' H' σ env' → Reps F' vs ds → Q vs H'
def tAs (Γ : Nat → Option FS) (CT : CTab) (K : PySem.W.Frag) (W : WX) (Z : Zt) (n : Nat) (ms : List M) : TA := fun σ H Q => ∃ F env, SR K Z F H σ env ∧ wpAs (wpE Γ n) ms env (PX CT K W Z σ F) fun os env' => ∀ vs F' H', Same F F' → SR K Z F' H' σ env' → ROs F' σ vs os → Q vs H'
theorem PE.imp {X : Cx} {e : Expr} {t t' : TE} (h : PE X e t) (f : ∀ σ H Q, t' σ H Q → t σ H Q) : PE X e t' := ⟨fun pins s σ H Q I q => h.run pins s σ H Q I (f _ _ _ q)⟩
theorem PT.imp {X : Cx} {e : Expr} {t t' : TT} (h : PT X e t) (f : ∀ σ H Q, t' σ H Q → t σ H Q) : PT X e t' := ⟨fun pins s σ H Q I q => h.run pins s σ H Q I (f _ _ _ q)⟩
theorem PA.imp {X : Cx} {es : List Expr} {t t' : TA} (h : PA X es t) (f : ∀ σ H Q, t' σ H Q → t σ H Q) : PA X es t' := ⟨fun pos pins s σ H Q I q => h.run pos pins s σ H Q I (f _ _ _ q)⟩
def SoundE (Γ : Nat → Option FS) (CT : CTab) (n : Nat) : Prop := ∀ (cc : CC) (X : Cx) (W : WX), Ok Γ CT X W cc → ∀ (Z : Zt) (m : M) (e : Expr), chkE n cc m e = true → PE X e (tE Γ CT X.K W Z n m)

/-! ### names -/
theorem and_split {a b : Bool} (h : (a && b) = true) : a = true ∧ b = true := by simpa using h
theorem not_true {a : Bool} (h : (!a) = true) : a = false := by simpa using h
theorem vis_of {sc : Scope} {x : Str} (h : visB sc x = true) : Vis sc x := by
  unfold visB at h
  split at h
  · exact .inl (by assumption)
  · exact .inr (.inl (by assumption))
  · exact .inr (.inr (by assumption))
  · cases h
section
variable {Γ : Nat → Option FS} {CT : CTab} {X : Cx} {W : WX} {cc : CC} {Z : Zt}
theorem Ok.name (ok : Ok Γ CT X W cc) {i : Nat} {x : Str} (h : nameB cc i x = true) : X.N[i]? = some x ∧ Vis X.env.scope x ∧ (x == ("__debug__" : Str)) = false ∧ (x == ("__classdict__" : Str)) = false := by
  unfold nameB at h
  obtain ⟨h, h4⟩ := and_split h
  obtain ⟨h, h3⟩ := and_split h
  obtain ⟨h1, h2⟩ := and_split h
  exact ⟨by rw [ok.n]; exact of_decide_eq_true h1, by rw [ok.sc]; exact vis_of h2, not_true h3, not_true h4⟩
theorem Ok.gl (ok : Ok Γ CT X W cc) {x : Str} (h : gloB cc x = true) : Gl X x ∧ (x == ("__debug__" : Str)) = false := by
  unfold gloB glB at h
  obtain ⟨h1, h2⟩ := and_split h
  refine ⟨?_, not_true h2⟩
  show X.env.scope.names.lookup x = _
  rw [ok.sc]; exact of_decide_eq_true h1
theorem pe_name (ok : Ok Γ CT X W cc) {i : Nat} {x : Str} {pos : Pos} (h : nameB cc i x = true) : PE X (.Name x pos) (tVar i) := by
  obtain ⟨h1, h2, h3, h4⟩ := ok.name h
  exact pe_var h1 h2 h3 h4
theorem chk_star {n : Nat} {m : M} {e : Expr} (h : chkE n cc m e = true) (env : Env) (es : List Expr) (env' : PySem.Env) : starEach (e :: es) env' = (false, eval e env') :: starEach es env' := by
  cases e with
  | Starred v p =>
    cases n with
    | zero => cases h
    | succ n => cases m with
      | bi b as => cases b <;> cases h
      | _ => cases h
  | _ => rfl
theorem name_star {x : Str} {p : Pos} {es : List Expr} {env' : PySem.Env} : starEach (.Name x p :: es) env' = (false, eval (.Name x p) env') :: starEach es env' := rfl

/-! ### operands, argument lists -/
variable {n : Nat} (IH : SoundE Γ CT n)
include IH
theorem snd_R (ok : Ok Γ CT X W cc) (Z : Zt) {m : M} {e : Expr} (h : chkE n cc m e = true) : PE X e (tR Γ CT X.K W Z n m) := by
  by_cases hv : ∃ i, m = .var i
  · obtain ⟨i, rfl⟩ := hv
    cases n with
    | zero => cases h
    | succ k =>
      cases e with
      | Name x p =>
        refine PE.imp (pe_name ok (i := i) h) fun σ H Q ⟨F, env, S, q⟩ => ?_
        obtain ⟨u, e1, q⟩ := optP_get q
        obtain ⟨v, e2, _⟩ := S.slot i u e1
        exact ⟨v, e2, q v F H same_refl S e2⟩
      | _ => cases h
  · refine PE.imp (IH cc X W ok Z m e h) fun σ H Q ⟨F, env, S, q⟩ => ⟨F, env, S, ?_⟩
    have q' : wpE Γ n m env (PX CT X.K W Z σ F) fun u env' => optP u.fz fun d => PO' X.K Z σ F Q (.d d) env' := by
      cases m <;> first | exact q | exact absurd ⟨_, rfl⟩ hv
    refine wpE_mono Γ n _ _ _ _ _ _ q' (fun _ _ z => z) fun u env1 h1 v F1 H1 s1 S1 r1 => ?_
    obtain ⟨d, e1, h2⟩ := optP_get h1
    obtain ⟨F2, s2, S2, r2⟩ := RU.fz S1 r1 e1
    exact h2 v F2 H1 (s1.trans s2) S2 r2
theorem snd_Os (ok : Ok Γ CT X W cc) (Z : Zt) : ∀ {ms : List M} {es : List Expr}, chkL (chkE n cc) ms es = true → PA X es (tOs Γ CT X.K W Z n ms)
  | [], [], _ => PA.imp pa_nil fun σ H Q ⟨F, env, S, q⟩ => q [] F H same_refl S .nil
  | m :: ms, e :: es, h => by
    obtain ⟨h1, h2⟩ := and_split h
    refine PA.imp (pa_cons (snd_R IH ok Z h1) (snd_Os ok Z h2) (chk_star h1 [] es _)) fun σ H Q ⟨F, env, S, q⟩ => ⟨F, env, S, ?_⟩
    have M := wpE_mono Γ n
    rw [wpOs_cons] at q
    refine wpR_mono M q (fun _ _ z => z) fun o env1 q1 v F1 H1 s1 S1 r1 => ⟨F1, env1, S1, ?_⟩
    refine wpOs_mono M (fx := True) q1 (PX.lift s1) fun os env2 q2 vs F2 H2 s2 S2 r2 => ?_
    exact q2 (v :: vs) F2 H2 (s1.trans s2) S2 (.cons (RO.mono s2 r1) r2)
  | [], _ :: _, h => by cases h
  | _ :: _, [], h => by cases h
theorem snd_Vs (ok : Ok Γ CT X W cc) (Z : Zt) : ∀ {ms : List M} {es : List Expr}, chkL (chkE n cc) ms es = true → PA X es (tVs Γ CT X.K W Z n ms)
  | [], [], _ => PA.imp pa_nil fun σ H Q ⟨F, env, S, q⟩ => q [] F H same_refl S .nil
  | m :: ms, e :: es, h => by
    obtain ⟨h1, h2⟩ := and_split h
    refine PA.imp (pa_cons (IH cc X W ok Z m e h1) (snd_Vs ok Z h2) (chk_star h1 [] es _)) fun σ H Q ⟨F, env, S, q⟩ => ⟨F, env, S, ?_⟩
    have M := wpE_mono Γ n
    refine M _ _ _ _ _ _ q (fun _ _ z => z) fun u env1 q1 v F1 H1 s1 S1 r1 => ?_
    obtain ⟨d, e1, q1⟩ := optP_get q1
    obtain ⟨F2, s2, S2, r2⟩ := RU.fz S1 r1 e1
    refine ⟨F2, env1, S2, wpVs_mono M q1 (PX.lift (s1.trans s2)) fun ds env2 q2 vs F3 H3 s3 S3 r3 => ?_⟩
    exact q2 (v :: vs) F3 H3 ((s1.trans s2).trans s3) S3 (.cons (r2.mono s3) r3)
  | [], _ :: _, h => by cases h
  | _ :: _, [], h => by cases h
theorem snd_As (ok : Ok Γ CT X W cc) (Z : Zt) : ∀ {ms : List M} {es : List Expr}, chkA cc (chkE n cc) ms es = true → PA X es (tAs Γ CT X.K W Z n ms)
  | [], [], _ => PA.imp pa_nil fun σ H Q ⟨F, env, S, q⟩ => q [] F H same_refl S .nil
  | m :: ms, e :: es, h => by
    have M := wpE_mono Γ n
    by_cases hv : ∃ i, m = .refv i
    · obtain ⟨i, rfl⟩ := hv
      cases e with
      | Name x p =>
        obtain ⟨h1, h2⟩ := and_split (show (nameB cc i x && chkA cc (chkE n cc) ms es) = true from h)
        refine PA.imp (pa_cons (pe_name ok h1) (snd_As ok Z h2) name_star) fun σ H Q ⟨F, env, S, q⟩ => ?_
        obtain ⟨u, e1, q⟩ := optP_get q
        obtain ⟨v, e2, _⟩ := S.slot i u e1
        refine ⟨v, e2, F, env, S, wpAs_mono M q (fun _ _ z => z) fun os env2 q2 vs F2 H2 s2 S2 r2 => ?_⟩
        exact q2 (v :: vs) F2 H2 s2 S2 (.cons e2 r2)
      | _ =>
        have h' : (chkE n cc (.refv i) _ && chkA cc (chkE n cc) ms es) = true := h
        obtain ⟨h1, _⟩ := and_split h'
        cases n <;> cases h1
    · have h' : (chkE n cc m e && chkA cc (chkE n cc) ms es) = true := by
        cases m <;> first | exact h | exact absurd ⟨_, rfl⟩ hv
      obtain ⟨h1, h2⟩ := and_split h'
      refine PA.imp (pa_cons (IH cc X W ok Z m e h1) (snd_As ok Z h2) (chk_star h1 [] es _)) fun σ H Q ⟨F, env, S, q⟩ => ⟨F, env, S, ?_⟩
      have q' : wpE Γ n m env (PX CT X.K W Z σ F) fun u env1 => optP u.fz fun d => wpAs (wpE Γ n) ms env1 (PX CT X.K W Z σ F) fun os env2 => ∀ vs F' H', Same F F' → SR X.K Z F' H' σ env2 → ROs F' σ vs (.d d :: os) → Q vs H' := by
        cases m <;> first | exact q | exact absurd ⟨_, rfl⟩ hv
      refine M _ _ _ _ _ _ q' (fun _ _ z => z) fun u env1 q1 v F1 H1 s1 S1 r1 => ?_
      obtain ⟨d, e1, q1⟩ := optP_get q1
      obtain ⟨F2, s2, S2, r2⟩ := RU.fz S1 r1 e1
      refine ⟨F2, env1, S2, wpAs_mono M q1 (PX.lift (s1.trans s2)) fun ds env2 q2 vs F3 H3 s3 S3 r3 => ?_⟩
      exact q2 (v :: vs) F3 H3 ((s1.trans s2).trans s3) S3 (.cons (r2.mono s3) r3)
  | [], _ :: _, h => by cases h
  | m :: _, [], h => by cases m <;> cases h

/-! ### nodes -/
/-- two operands, then an operation by values -/
theorem two_R {op : BOp} (Z : Zt) {a b : M} {σ : L2.St} {H : Hp} {R : V → V → Hp → Prop} {F : Hp} {env : Env} (S : SR X.K Z F H σ env) {Qf : Op → Op → Env → Prop}
    (q : wpR (wpE Γ n) a env (PX CT X.K W Z σ F) fun oa env1 => wpR (wpE Γ n) b env1 (PX CT X.K W Z σ F) fun ob env2 => Qf oa ob env2)
    (f : ∀ oa ob env2 x y F2 H2, Qf oa ob env2 → Same F F2 → SR X.K Z F2 H2 σ env2 → RO F2 σ x oa → RO F2 σ y ob → R x y H2) :
    tR Γ CT X.K W Z n a σ H fun x H1 => tR Γ CT X.K W Z n b σ H1 fun y H2 => R x y H2 := by
  have M := wpE_mono Γ n
  refine ⟨F, env, S, wpR_mono M q (fun _ _ z => z) fun oa env1 q1 x F1 H1 s1 S1 r1 => ?_⟩
  refine ⟨F1, env1, S1, wpR_mono M q1 (PX.lift s1) fun ob env2 q2 y F2 H2 s2 S2 r2 => ?_⟩
  exact f oa ob env2 x y F2 H2 q2 (s1.trans s2) S2 (RO.mono s2 r1) r2
end
end GM

set_option maxRecDepth 100000
/-! GM: expressions keep what wpE says: the nodes -/
namespace GM
open PySem PySem.Spec PyProof.Rows L2
section
variable {Γ : Nat → Option FS} {CT : CTab} {X : Cx} {W : WX} {cc : CC} {Z : Zt} {n : Nat}
theorem PV.done {K : PySem.W.Frag} {σ : L2.St} {F F2 H2 : Hp} {Q : VK} {r : U} {env2 : Env} (q : PV K Z σ F Q r env2) (s : Same F F2) (S : SR K Z F2 H2 σ env2) : ∀ v F' H', Grow F2 H2 F' H' → RN H2 F' H' v r → Q v H' :=
  fun v F' H' g rn => q v F' H' (s.trans g.f) (S.grow g) (RN.ru S rn)
theorem PV.same {K : PySem.W.Frag} {σ : L2.St} {F F2 H2 : Hp} {Q : VK} {d : D} {v : V} {env2 : Env} (q : PV K Z σ F Q (.v d) env2) (s : Same F F2) (S : SR K Z F2 H2 σ env2) (r : Rep F2 v d) : Q v H2 := q v F2 H2 s S r
theorem tru_rd {K : PySem.W.Frag} {F H : Hp} {v : V} {d : D} {t : Bool} (s : Same F H) (h : Rd F H v d) (e : truD d = some t) (c : truC d) : TruV K v H t := by
  cases d with
  | none => cases h.non; cases e; rfl
  | bool b => cases h.bl; cases e; rfl
  | int i => cases h.int; cases e; rfl
  | str x =>
    cases h.str
    cases e
    refine ⟨by rw [← limLine]; exact c, ?_⟩
    rw [Bool.eq_iff_iff]
    simp
  | list xs =>
    obtain ⟨a, vs, rfl, ha, ra⟩ := h.lst s
    cases e
    exact .inl ⟨vs, SqL.of ha, by rw [ra.isEmpty]⟩
  | tuple xs =>
    obtain ⟨a, vs, rfl, ha, _, ra⟩ := h.tup s
    cases e
    exact .inr (.inl ⟨vs, SqT.of ha, by rw [ra.isEmpty]⟩)
  | dict kvs => cases e
theorem chkL_len {rec : M → Expr → Bool} : ∀ {ms : List M} {es : List Expr}, chkL rec ms es = true → ms.length = es.length
  | [], [], _ => rfl
  | _ :: _, _ :: _, h => by obtain ⟨_, h2⟩ := and_split h; simp [chkL_len h2]
  | [], _ :: _, h => by cases h
  | _ :: _, [], h => by cases h
theorem wpVs_len {rec : WE} (MR : MonoE rec) : ∀ {ms : List M} {env : Env} {Qx : QX} {Q : List D → Env → Prop}, wpVs rec ms env Qx Q → wpVs rec ms env Qx fun ds e => ds.length = ms.length ∧ Q ds e
  | [], _, _, _, h => ⟨rfl, h⟩
  | m :: ms, _, _, _, h => MR _ _ _ _ _ _ h (fun _ _ z => z) fun _ _ h1 => optP_mono h1 fun _ h2 => wpVs_mono MR (wpVs_len MR h2) (fun _ _ z => z) fun _ _ ⟨e, q⟩ => ⟨by simp [e], q⟩
theorem plus_len {a b : Nat} (h : a = b) (c : b ≤ LIM) : a ≤ sizeLine := by rw [h, ← limLine]; exact c
theorem plain_ix {b : Expr} (h : ∀ l u s p, b ≠ .Slice l u s p) : PlainIx b := by
  intro o i
  cases b <;> first | rfl | exact absurd rfl (h _ _ _ _)
theorem noStar {rec : M → Expr → Bool} {env : PySem.Env} {pos : Pos} (hs : ∀ m e, rec m e = true → ∀ es, starEach (e :: es) env = (false, eval e env) :: starEach es env) : ∀ {ms : List M} {es : List Expr}, chkL rec ms es = true → (backTo pos (starEach es env)).any (·.1) = false
  | [], [], _ => rfl
  | m :: ms, e :: es, h => by
    obtain ⟨h1, h2⟩ := and_split h
    have ih := noStar (pos := pos) hs h2
    rw [hs m e h1]
    unfold backTo at ih ⊢
    rw [List.map_cons, List.any_cons, ih]
    rfl
  | [], _ :: _, h => by cases h
  | _ :: _, [], h => by cases h
theorem noStarA {rec : M → Expr → Bool} {env : PySem.Env} {pos : Pos} (hs : ∀ m e, rec m e = true → ∀ es, starEach (e :: es) env = (false, eval e env) :: starEach es env) : ∀ {ms : List M} {es : List Expr}, chkA cc rec ms es = true → (backTo pos (starEach es env)).any (·.1) = false
  | [], [], _ => rfl
  | m :: ms, e :: es, h => by
    by_cases hv : ∃ i x p, m = .refv i ∧ e = .Name x p
    · obtain ⟨i, x, p, rfl, rfl⟩ := hv
      obtain ⟨h1, h2⟩ := and_split (show (nameB cc i x && chkA cc rec ms es) = true from h)
      have ih := noStarA (pos := pos) hs h2
      rw [name_star]
      unfold backTo at ih ⊢
      rw [List.map_cons, List.any_cons, ih]
      rfl
    · have h' : (rec m e && chkA cc rec ms es) = true := by
        cases m <;> first | exact h | (cases e <;> first | exact h | exact absurd ⟨_, _, _, rfl, rfl⟩ hv)
      obtain ⟨h1, h2⟩ := and_split h'
      have ih := noStarA (pos := pos) hs h2
      rw [hs m e h1]
      unfold backTo at ih ⊢
      rw [List.map_cons, List.any_cons, ih]
      rfl
  | [], _ :: _, h => by cases h
  | m :: _, [], h => by cases m <;> cases h
theorem star_first {rec : M → Expr → Bool} {env : PySem.Env} (hs : ∀ m e, rec m e = true → ∀ es, starEach (e :: es) env = (false, eval e env) :: starEach es env) {ms : List M} {e : Expr} {es : List Expr} (h : chkA cc rec ms (e :: es) = true) :
    starEach (e :: es) env = (false, eval e env) :: starEach es env ∧ (∀ pos, (backTo pos (starEach es env)).any (·.1) = false) := by
  cases ms with
  | nil => cases h
  | cons m ms =>
    by_cases hv : ∃ i x p, m = .refv i ∧ e = .Name x p
    · obtain ⟨i, x, p, rfl, rfl⟩ := hv
      obtain ⟨h1, h2⟩ := and_split (show (nameB cc i x && chkA cc rec ms es) = true from h)
      exact ⟨name_star, fun pos => noStarA hs h2⟩
    · have h' : (rec m e && chkA cc rec ms es) = true := by
        cases m <;> first | exact h | (cases e <;> first | exact h | exact absurd ⟨_, _, _, rfl, rfl⟩ hv)
      obtain ⟨h1, h2⟩ := and_split h'
      exact ⟨hs m e h1 es, fun pos => noStarA hs h2⟩

variable (IH : SoundE Γ CT n)
include IH
theorem snd_var (ok : Ok Γ CT X W cc) (Z : Zt) {i : Nat} {e : Expr} (h : chkE (n + 1) cc (.var i) e = true) : PE X e (tE Γ CT X.K W Z (n + 1) (.var i)) := by
  cases e with
  | Name x p =>
    refine PE.imp (pe_name ok (i := i) h) fun σ H Q ⟨F, env, S, q⟩ => ?_
    obtain ⟨⟨u, env1⟩, e1, q⟩ := optP_get q
    obtain ⟨v, F', d, hp, hσ, s, S', rep⟩ := S.esc e1
    cases hp
    exact ⟨v, hσ, q v F' H s S' rep⟩
  | _ => cases h
theorem snd_con (ok : Ok Γ CT X W cc) (Z : Zt) {d : D} {e : Expr} (h : chkE (n + 1) cc (.con d) e = true) : PE X e (tE Γ CT X.K W Z (n + 1) (.con d)) := by
  cases e with
  | Constant c k p =>
    have h' : conB d c = true := h
    cases d <;> cases c <;> first | (cases h'; done) | skip
    · exact PE.imp pe_non fun σ H Q ⟨F, env, S, q⟩ => q _ F H same_refl S .non
    · have e1 := eq_of_beq h'
      subst e1
      exact PE.imp pe_bl fun σ H Q ⟨F, env, S, q⟩ => q _ F H same_refl S (.bl _)
    · have e1 := of_decide_eq_true h'
      subst e1
      exact PE.imp pe_int fun σ H Q ⟨F, env, S, q⟩ => q _ F H same_refl S (.int _)
    · have e1 := of_decide_eq_true h'
      subst e1
      exact PE.imp pe_str fun σ H Q ⟨F, env, S, q⟩ => q _ F H same_refl S (.str _)
  | Name x p =>
    cases d with
    | int i =>
      obtain ⟨h1, h2⟩ := and_split (show (gloB cc x && decide (cc.cons.lookup x = some i)) = true from h)
      obtain ⟨g, gd⟩ := ok.gl h1
      obtain ⟨t, ht⟩ := ok.cons x i (of_decide_eq_true h2)
      exact PE.imp (pe_glob (v := .int i) g ht ⟨t, rfl⟩ gd) fun σ H Q ⟨F, env, S, q⟩ => q _ F H same_refl S (.int _)
    | _ => cases h
  | _ => cases h
theorem snd_bin (ok : Ok Γ CT X W cc) (Z : Zt) {op : BOp} {a b : M} {e : Expr} (h : chkE (n + 1) cc (.bin op a b) e = true) : PE X e (tE Γ CT X.K W Z (n + 1) (.bin op a b)) := by
  cases e with
  | BinOp l o r p =>
    obtain ⟨h, h3⟩ := and_split (show (decide (o = opOf op) && chkE n cc a l && chkE n cc b r) = true from h)
    obtain ⟨h1, h2⟩ := and_split h
    have e1 := of_decide_eq_true h1
    subst e1
    refine PE.imp (pe_op (op_bin op) (snd_R IH ok Z h2) (snd_R IH ok Z h3)) fun σ H Q ⟨F, env, S, q⟩ => ?_
    rw [wpE_succ] at q
    unfold wpE1 at q
    dsimp only at q
    refine two_R IH (op := op) Z S q fun oa ob env2 x y F2 H2 q2 s2 S2 r1 r2 => ?_
    obtain ⟨dx, ex, q2⟩ := optP_get q2
    obtain ⟨dy, ey, q2⟩ := optP_get q2
    obtain ⟨r, er, q2⟩ := optP_get q2
    obtain ⟨c, q2⟩ := ckP_get q2
    exact ⟨F2, dx, dy, r, S2.le, r1.rd S2 same_refl ex, r2.rd S2 same_refl ey, er, c, q2.done s2 S2⟩
  | _ => cases h
theorem snd_neg (ok : Ok Γ CT X W cc) (Z : Zt) {a : M} {e : Expr} (h : chkE (n + 1) cc (.neg a) e = true) : PE X e (tE Γ CT X.K W Z (n + 1) (.neg a)) := by
  cases e with
  | UnaryOp o x p =>
    cases o with
    | USub =>
      refine PE.imp (pe_un un_neg (snd_R IH ok Z (m := a) h)) fun σ H Q ⟨F, env, S, q⟩ => ?_
      rw [wpE_succ] at q
      unfold wpE1 at q
      dsimp only at q
      refine ⟨F, env, S, ?_⟩
      refine wpR_mono (wpE_mono Γ n) q (fun _ _ z => z) fun oa env1 q1 v F1 H1 s1 S1 r1 => ?_
      obtain ⟨d, e1, q1⟩ := optP_get q1
      obtain ⟨d2, e2, q1⟩ := optP_get q1
      have rr := r1.rd S1 same_refl e1
      cases d with
      | int i => cases e2; cases rr.int; exact ⟨i, rfl, PV.same q1 s1 S1 (.int _)⟩
      | _ => cases e2
    | _ => cases h
  | _ => cases h
/-- a comparison's reading -/
theorem cmp_read (ok : Ok Γ CT X W cc) (Z : Zt) {op : COp} {a b : M} {σ : L2.St} {H : Hp} {F : Hp} {env : Env} (S : SR X.K Z F H σ env) {Qf : U → Env → Prop} {Q : VK}
    (q : wpE Γ (n + 1) (.cmp op a b) env (PX CT X.K W Z σ F) Qf) (f : ∀ r env2 F2 H2, Qf (.v (.bool r)) env2 → Same F F2 → SR X.K Z F2 H2 σ env2 → Q (.bl r) H2) :
    tOp (rCmp op) (tR Γ CT X.K W Z n a) (tR Γ CT X.K W Z n b) σ H Q := by
  rw [wpE_succ] at q
  unfold wpE1 at q
  dsimp only at q
  refine two_R IH (op := .add) Z S q fun oa ob env2 x y F2 H2 q2 s2 S2 r1 r2 => ?_
  obtain ⟨dx, ex, q2⟩ := optP_get q2
  obtain ⟨dy, ey, q2⟩ := optP_get q2
  obtain ⟨r, er, q2⟩ := optP_get q2
  obtain ⟨c, q2⟩ := ckP_get q2
  exact ⟨F2, dx, dy, r, S2.le, r1.rd S2 same_refl ex, r2.rd S2 same_refl ey, er, c, f _ _ _ _ q2 s2 S2⟩
theorem chain_read (ok : Ok Γ CT X W cc) (Z : Zt) {o1 o2 : COp} {a b c : M} {σ : L2.St} {H : Hp} {F : Hp} {env : Env} (S : SR X.K Z F H σ env) {Qf : U → Env → Prop} {Q : VK}
    (q : wpE Γ (n + 1) (.chain o1 o2 a b c) env (PX CT X.K W Z σ F) Qf) (f : ∀ r env2 F2 H2, Qf (.v (.bool r)) env2 → Same F F2 → SR X.K Z F2 H2 σ env2 → Q (.bl r) H2) :
    tChain (rCmp o1) (rCmp o2) (tR Γ CT X.K W Z n a) (tR Γ CT X.K W Z n b) (tR Γ CT X.K W Z n c) σ H Q := by
  rw [wpE_succ] at q
  unfold wpE1 at q
  dsimp only at q
  refine two_R IH (op := .add) Z S q fun oa ob env2 x y F2 H2 q2 s2 S2 r1 r2 => ?_
  obtain ⟨dx, ex, q2⟩ := optP_get q2
  obtain ⟨dy, ey, q2⟩ := optP_get q2
  obtain ⟨r, er, q2⟩ := optP_get q2
  obtain ⟨cc1, q2⟩ := ckP_get q2
  obtain ⟨qt, qf⟩ := brP_get q2
  refine ⟨F2, dx, dy, r, S2.le, r1.rd S2 same_refl ex, r2.rd S2 same_refl ey, er, cc1, r, rfl, ?_⟩
  cases r with
  | false => exact f _ _ _ _ (qf rfl) s2 S2
  | true =>
    refine ⟨F2, env2, S2, wpR_mono (wpE_mono Γ n) (qt rfl) (PX.lift s2) fun oc env3 q3 z F3 H3 s3 S3 r3 => ?_⟩
    obtain ⟨dy', ey', q3⟩ := optP_get q3
    obtain ⟨dz, ez, q3⟩ := optP_get q3
    obtain ⟨r', er', q3⟩ := optP_get q3
    obtain ⟨cc2, q3⟩ := ckP_get q3
    exact ⟨F3, dy', dz, r', S3.le, r2.rd S3 s3 ey', r3.rd S3 same_refl ez, er', cc2, f _ _ _ _ q3 (s2.trans s3) S3⟩
theorem snd_cmp (ok : Ok Γ CT X W cc) (Z : Zt) {op : COp} {a b : M} {e : Expr} (h : chkE (n + 1) cc (.cmp op a b) e = true) :
    PE X e (tE Γ CT X.K W Z (n + 1) (.cmp op a b)) ∧ PT X e (fun σ H Q => ∃ F env, SR X.K Z F H σ env ∧ ∃ Qf, wpE Γ (n + 1) (.cmp op a b) env (PX CT X.K W Z σ F) Qf ∧ ∀ r env2 F2 H2, Qf (.v (.bool r)) env2 → Same F F2 → SR X.K Z F2 H2 σ env2 → Q r H2) := by
  cases e with
  | Compare l os rs p =>
    match os, rs, h with
    | [o], [r], h =>
      obtain ⟨h, h4⟩ := and_split (show (decide (o = copOf op) && chkE n cc a l && chkE n cc b r && !behindInMarks o r) = true from h)
      obtain ⟨h, h3⟩ := and_split h
      obtain ⟨h1, h2⟩ := and_split h
      have e1 := of_decide_eq_true h1
      subst e1
      refine ⟨PE.imp (pe_cmpR (op_cmp op ok.un) (snd_R IH ok Z h2) (snd_R IH ok Z h3) (not_true h4)) fun σ H Q ⟨F, env, S, q⟩ => ?_,
        PT.imp (pt_cmpR (op_cmp op ok.un) (snd_R IH ok Z h2) (snd_R IH ok Z h3) (not_true h4)) fun σ H Q ⟨F, env, S, Qf, q, f⟩ => ?_⟩
      · exact cmp_read IH ok Z S q fun r env2 F2 H2 z s2 S2 => PV.same z s2 S2 (.bl r)
      · exact cmp_read IH ok Z S q fun r env2 F2 H2 z s2 S2 => ⟨r, rfl, f _ _ _ _ z s2 S2⟩
    | [], _, h => cases h
    | [_], [], h => cases h
    | [_], _ :: _ :: _, h => cases h
    | _ :: _ :: _, _, h => cases h
  | _ => cases h
theorem snd_chain (ok : Ok Γ CT X W cc) (Z : Zt) {o1 o2 : COp} {a b c : M} {e : Expr} (h : chkE (n + 1) cc (.chain o1 o2 a b c) e = true) :
    PE X e (tE Γ CT X.K W Z (n + 1) (.chain o1 o2 a b c)) ∧ PT X e (fun σ H Q => ∃ F env, SR X.K Z F H σ env ∧ ∃ Qf, wpE Γ (n + 1) (.chain o1 o2 a b c) env (PX CT X.K W Z σ F) Qf ∧ ∀ r env2 F2 H2, Qf (.v (.bool r)) env2 → Same F F2 → SR X.K Z F2 H2 σ env2 → Q r H2) := by
  cases e with
  | Compare l os rs p =>
    match os, rs, h with
    | [p1, p2], [r1, r2], h =>
      obtain ⟨h, h6⟩ := and_split (show (decide (p1 = copOf o1) && decide (p2 = copOf o2) && chkE n cc a l && chkE n cc b r1 && chkE n cc c r2 && !lastMarks [p1, p2] [r1, r2]) = true from h)
      obtain ⟨h, h5⟩ := and_split h
      obtain ⟨h, h4⟩ := and_split h
      obtain ⟨h, h3⟩ := and_split h
      obtain ⟨h1, h2⟩ := and_split h
      have e1 := of_decide_eq_true h1
      have e2 := of_decide_eq_true h2
      subst e1 e2
      refine ⟨PE.imp (pe_chain (op_cmp o1 ok.un) (op_cmp o2 ok.un) (snd_R IH ok Z h3) (snd_R IH ok Z h4) (snd_R IH ok Z h5) (not_true h6)) fun σ H Q ⟨F, env, S, q⟩ => ?_,
        PT.imp (pt_chain (op_cmp o1 ok.un) (op_cmp o2 ok.un) (snd_R IH ok Z h3) (snd_R IH ok Z h4) (snd_R IH ok Z h5) (not_true h6)) fun σ H Q ⟨F, env, S, Qf, q, f⟩ => ?_⟩
      · exact chain_read IH ok Z S q fun r env2 F2 H2 z s2 S2 => PV.same z s2 S2 (.bl r)
      · exact chain_read IH ok Z S q fun r env2 F2 H2 z s2 S2 => ⟨r, rfl, f _ _ _ _ z s2 S2⟩
    | [], _, h => cases h
    | [_], _, h => cases h
    | _ :: _ :: _ :: _, _, h => cases h
    | [_, _], [], h => cases h
    | [_, _], [_], h => cases h
    | [_, _], _ :: _ :: _ :: _, h => cases h
  | _ => cases h
theorem snd_rest (ok : Ok Γ CT X W cc) (Z : Zt) {op : BoolOp} {b : M} {y : Expr} {es : List Expr} {p : Pos} (h : chkE n cc b (restB op y es p) = true) : PE X (.BoolOp op (y :: es) p) (tE Γ CT X.K W Z n b) := by
  cases es with
  | nil => exact pe_one (IH cc X W ok Z b y h)
  | cons e es => exact IH cc X W ok Z b _ h
theorem snd_and (ok : Ok Γ CT X W cc) (Z : Zt) {a b : M} {e : Expr} (h : chkE (n + 1) cc (.and_ a b) e = true) : PE X e (tE Γ CT X.K W Z (n + 1) (.and_ a b)) := by
  cases e with
  | BoolOp o xs p =>
    match o, xs, h with
    | .And, x :: y :: es, h =>
      obtain ⟨h1, h2⟩ := and_split (show (chkE n cc a x && chkE n cc b (restB .And y es p)) = true from h)
      refine PE.imp (pe_andT (IH cc X W ok Z a x h1) (snd_rest IH ok Z h2)) fun σ H Q ⟨F, env, S, q⟩ => ?_
      rw [wpE_succ] at q
      unfold wpE1 at q
      dsimp only at q
      refine ⟨F, env, S, ?_⟩
      refine wpE_mono Γ n _ _ _ _ _ _ q (fun _ _ z => z) fun u env1 q1 v F1 H1 s1 S1 r1 => ?_
      obtain ⟨d, e1, q1⟩ := optP_get q1
      obtain ⟨t, e2, q1⟩ := optP_get q1
      obtain ⟨c, q1⟩ := ckP_get q1
      obtain ⟨qt, qf⟩ := brP_get q1
      obtain ⟨F2, s2, S2, r2⟩ := RU.fz S1 r1 e1
      refine ⟨t, tru_rd S2.le (.v r2) e2 c, ?_⟩
      cases t with
      | true => exact ⟨F2, env1, S2, wpE_mono Γ n _ _ _ _ _ _ (qt rfl) (PX.lift (s1.trans s2)) fun u2 env2 q2 v2 F3 H3 s3 S3 r3 => q2 v2 F3 H3 ((s1.trans s2).trans s3) S3 r3⟩
      | false => exact PV.same (qf rfl) (s1.trans s2) S2 r2
    | .Or, _, h => cases h
    | .And, [], h => cases h
    | .And, [_], h => cases h
  | _ => cases h
theorem snd_or (ok : Ok Γ CT X W cc) (Z : Zt) {a b : M} {e : Expr} (h : chkE (n + 1) cc (.or_ a b) e = true) : PE X e (tE Γ CT X.K W Z (n + 1) (.or_ a b)) := by
  cases e with
  | BoolOp o xs p =>
    match o, xs, h with
    | .Or, x :: y :: es, h =>
      obtain ⟨h1, h2⟩ := and_split (show (chkE n cc a x && chkE n cc b (restB .Or y es p)) = true from h)
      refine PE.imp (pe_orT (IH cc X W ok Z a x h1) (snd_rest IH ok Z h2)) fun σ H Q ⟨F, env, S, q⟩ => ?_
      rw [wpE_succ] at q
      unfold wpE1 at q
      dsimp only at q
      refine ⟨F, env, S, ?_⟩
      refine wpE_mono Γ n _ _ _ _ _ _ q (fun _ _ z => z) fun u env1 q1 v F1 H1 s1 S1 r1 => ?_
      obtain ⟨d, e1, q1⟩ := optP_get q1
      obtain ⟨t, e2, q1⟩ := optP_get q1
      obtain ⟨c, q1⟩ := ckP_get q1
      obtain ⟨qt, qf⟩ := brP_get q1
      obtain ⟨F2, s2, S2, r2⟩ := RU.fz S1 r1 e1
      refine ⟨t, tru_rd S2.le (.v r2) e2 c, ?_⟩
      cases t with
      | false => exact ⟨F2, env1, S2, wpE_mono Γ n _ _ _ _ _ _ (qf rfl) (PX.lift (s1.trans s2)) fun u2 env2 q2 v2 F3 H3 s3 S3 r3 => q2 v2 F3 H3 ((s1.trans s2).trans s3) S3 r3⟩
      | true => exact PV.same (qt rfl) (s1.trans s2) S2 r2
    | .And, _, h => cases h
    | .Or, [], h => cases h
    | .Or, [_], h => cases h
  | _ => cases h
theorem snd_not (ok : Ok Γ CT X W cc) (Z : Zt) {a : M} {e : Expr} (h : chkE (n + 1) cc (.notv a) e = true) : PE X e (tE Γ CT X.K W Z (n + 1) (.notv a)) := by
  cases e with
  | UnaryOp o x p =>
    cases o with
    | Not =>
      refine PE.imp (pe_notT (snd_R IH ok Z (m := a) h)) fun σ H Q ⟨F, env, S, q⟩ => ?_
      rw [wpE_succ] at q
      unfold wpE1 at q
      dsimp only at q
      refine ⟨F, env, S, ?_⟩
      refine wpR_mono (wpE_mono Γ n) q (fun _ _ z => z) fun oa env1 q1 v F1 H1 s1 S1 r1 => ?_
      obtain ⟨d, e1, q1⟩ := optP_get q1
      obtain ⟨t, e2, q1⟩ := optP_get q1
      obtain ⟨c, q1⟩ := ckP_get q1
      exact ⟨t, tru_rd S1.le (r1.rd S1 same_refl e1) e2 c, PV.same q1 s1 S1 (.bl _)⟩
    | _ => cases h
  | _ => cases h
/-! tests -/
omit IH in
theorem snd_T (IHs : ∀ k, k ≤ n → SoundE Γ CT k) (ok : Ok Γ CT X W cc) (Z : Zt) : ∀ {k : Nat} {m : M} {e : Expr}, chkT (chkE n cc) k m e = true → PT X e (tT Γ CT X.K W Z n k m)
  | 0, _, _, h => by cases h
  | k + 1, m, e, h => by
    have M := wpE_mono Γ n
    have IH : SoundE Γ CT n := IHs n (Nat.le_refl n)
    by_cases hm : isTN m = false
    · have h' : (chkE n cc m e && !isIfE e) = true := by cases m <;> first | exact h | cases hm
      obtain ⟨h1, h2⟩ := and_split h'
      by_cases hc : ∃ l os rs p, e = .Compare l os rs p
      · obtain ⟨l, os, rs, p, rfl⟩ := hc
        cases n with
        | zero => cases h1
        | succ j =>
          have IHj : SoundE Γ CT j := IHs j (Nat.le_succ j)
          have key : ∀ {σ : L2.St} {H : Hp} {Q : Bool → Hp → Prop}, tT Γ CT X.K W Z (j + 1) (k + 1) m σ H Q → ∃ F env, SR X.K Z F H σ env ∧ ∃ Qf, wpE Γ (j + 1) m env (PX CT X.K W Z σ F) Qf ∧ ∀ r env2 F2 H2, Qf (.v (.bool r)) env2 → Same F F2 → SR X.K Z F2 H2 σ env2 → Q r H2 := by
            intro σ H Q ⟨F, env, S, q⟩
            rw [wpT_leaf hm] at q
            have q' : wpE Γ (j + 1) m env (PX CT X.K W Z σ F) fun u env' => optP u.fz fun d => optP (rdv env' (.d d)) fun d => optP (truD d) fun b => ckP (truC d) (PB X.K Z σ F Q b env') := by
              cases m <;> first | exact q | (cases h1; done)
            refine ⟨F, env, S, _, q', fun r env2 F2 H2 z s2 S2 => ?_⟩
            obtain ⟨d, e1, z⟩ := optP_get z
            cases e1
            obtain ⟨d, e1, z⟩ := optP_get z
            cases e1
            obtain ⟨d, e1, z⟩ := optP_get z
            cases e1
            obtain ⟨_, z⟩ := ckP_get z
            exact z F2 H2 s2 S2
          cases m with
          | cmp op a b =>
            exact PT.imp (snd_cmp IHj ok Z h1).2 fun σ H Q q => key q
          | chain o1 o2 a b c => exact PT.imp (snd_chain IHj ok Z h1).2 fun σ H Q q => key q
          | bi b as => cases b <;> cases h1
          | _ => cases h1
      · refine PT.imp (pt_truth (snd_R IH ok Z h1) fun wh => ?_) fun σ H Q ⟨F, env, S, q⟩ => ⟨F, env, S, ?_⟩
        · cases e with
          | Compare l os rs p => exact absurd ⟨_, _, _, _, rfl⟩ hc
          | IfExp => cases h2
          | BoolOp o xs p =>
            exfalso
            cases n with
            | zero => cases h1
            | succ j => cases m with
              | bi b as => cases b <;> cases h1
              | and_ => cases hm
              | or_ => cases hm
              | _ => cases h1
          | UnaryOp o x p =>
            cases o with
            | Not =>
              exfalso
              cases n with
              | zero => cases h1
              | succ j => cases m with
                | bi b as => cases b <;> cases h1
                | notv => cases hm
                | _ => cases h1
            | _ => rfl
          | _ => rfl
        · rw [wpT_leaf hm] at q
          refine wpR_mono M q (fun _ _ z => z) fun o env1 q1 v F1 H1 s1 S1 r1 => ?_
          obtain ⟨d, e1, q1⟩ := optP_get q1
          obtain ⟨t, e2, q1⟩ := optP_get q1
          obtain ⟨c, q1⟩ := ckP_get q1
          exact ⟨t, tru_rd S1.le (r1.rd S1 same_refl e1) e2 c, q1 F1 H1 s1 S1⟩
    · have rest : ∀ {op : BoolOp} {b : GM.M} {y : Expr} {es : List Expr} {p : Pos}, chkT (chkE n cc) k b (restB op y es p) = true → PW X (.BoolOp op (y :: es) p) (tT Γ CT X.K W Z n k b) := by
        intro op b y es p hb
        cases es with
        | nil => cases op with
          | And => exact pw_and1 (snd_T IHs ok Z hb)
          | Or => exact pw_or1 (snd_T IHs ok Z hb)
        | cons e es =>
          have hp := snd_T IHs ok Z (k := k) hb
          exact ⟨fun wh pins s σ H Q I q => hp.run pins s σ H Q I q⟩
      cases m with
      | notv a =>
        cases e with
        | UnaryOp o x p =>
          cases o with
          | Not =>
            refine PT.imp (pt_not (snd_T IHs ok Z (k := k) (m := a) h)) fun σ H Q ⟨F, env, S, q⟩ => ⟨F, env, S, ?_⟩
            exact wpT_mono M q (fun _ _ z => z) fun b env1 q1 F1 H1 s1 S1 => q1 F1 H1 s1 S1
          | _ => cases h
        | _ => cases h
      | and_ a b =>
        cases e with
        | BoolOp o xs p =>
          match o, xs, h with
          | .And, x :: y :: es, h =>
            obtain ⟨h1, h2⟩ := and_split (show (chkT (chkE n cc) k a x && chkT (chkE n cc) k b (restB .And y es p)) = true from h)
            refine PT.imp (PW.pt (pw_and (snd_T IHs ok Z (k := k) h1) (rest h2))) fun σ H Q ⟨F, env, S, q⟩ => ⟨F, env, S, ?_⟩
            refine wpT_mono M q (fun _ _ z => z) fun c env1 q1 F1 H1 s1 S1 => ?_
            obtain ⟨qt, qf⟩ := brP_get q1
            cases c with
            | true => exact ⟨F1, env1, S1, wpT_mono M (qt rfl) (PX.lift s1) fun d env2 q2 F2 H2 s2 S2 => q2 F2 H2 (s1.trans s2) S2⟩
            | false => exact qf rfl F1 H1 s1 S1
          | .Or, _, h => cases h
          | .And, [], h => cases h
          | .And, [_], h => cases h
        | _ => cases h
      | or_ a b =>
        cases e with
        | BoolOp o xs p =>
          match o, xs, h with
          | .Or, x :: y :: es, h =>
            obtain ⟨h1, h2⟩ := and_split (show (chkT (chkE n cc) k a x && chkT (chkE n cc) k b (restB .Or y es p)) = true from h)
            refine PT.imp (PW.pt (pw_or (snd_T IHs ok Z (k := k) h1) (rest h2))) fun σ H Q ⟨F, env, S, q⟩ => ⟨F, env, S, ?_⟩
            refine wpT_mono M q (fun _ _ z => z) fun c env1 q1 F1 H1 s1 S1 => ?_
            obtain ⟨qt, qf⟩ := brP_get q1
            cases c with
            | false => exact ⟨F1, env1, S1, wpT_mono M (qf rfl) (PX.lift s1) fun d env2 q2 F2 H2 s2 S2 => q2 F2 H2 (s1.trans s2) S2⟩
            | true => exact qt rfl F1 H1 s1 S1
          | .And, _, h => cases h
          | .Or, [], h => cases h
          | .Or, [_], h => cases h
        | _ => cases h
      | _ => exact absurd rfl hm
end
end GM

set_option maxRecDepth 100000
/-! GM: expressions keep what wpE says: calls -/
namespace GM
open PySem PySem.Spec PyProof.Rows L2
theorem pair_get {α β : Type} {R : α → β → Prop} : ∀ {xs : List α} {ys : List β} {i : Nat} {y : β}, Paired R xs ys → ys[i]? = some y → ∃ x, xs[i]? = some x ∧ R x y
  | _, _, _, _, .nil, e => by simp at e
  | _, _, 0, _, .cons h _, e => by simp at e; subst e; exact ⟨_, rfl, h⟩
  | _, _, i + 1, y, .cons _ t, e => by
    obtain ⟨x, h1, h2⟩ := pair_get (i := i) (y := y) t (by simpa using e)
    exact ⟨x, by simpa using h1, h2⟩
theorem argUs_get {env : Env} : ∀ {os : List Op} {us : List U} {i : Nat} {u : U}, argUs env os = some us → us[i]? = some u → ∃ o, os[i]? = some o ∧ argU env o = some u
  | [], us, i, u, h, e => by cases h; simp at e
  | o :: os, us, i, u, h, e => by
    simp only [argUs] at h
    cases q : argU env o with
    | none => rw [q] at h; cases h
    | some d =>
      rw [q] at h
      cases q2 : argUs env os with
      | none => rw [q2] at h; cases h
      | some ds =>
        rw [q2] at h; cases h
        cases i with
        | zero => simp at e; subst e; exact ⟨o, rfl, q⟩
        | succ i =>
          obtain ⟨o', h1, h2⟩ := argUs_get (i := i) q2 (by simpa using e)
          exact ⟨o', by simpa using h1, h2⟩
theorem mem_vars : ∀ {os : List Op} {i k : Nat}, os[i]? = some (.var k) → k ∈ varsOf os
  | [], _, _, e => by simp at e
  | .var j :: os, 0, k, e => by simp at e; subst e; exact List.mem_cons_self
  | .d d :: os, 0, k, e => by simp at e
  | .var j :: os, i + 1, k, e => List.mem_cons_of_mem _ (mem_vars (i := i) (by simpa using e))
  | .d d :: os, i + 1, k, e => mem_vars (os := os) (i := i) (by simpa using e)
theorem vars_at : ∀ {os : List Op} {k : Nat}, k ∈ varsOf os → ∃ i : Nat, os[i]? = some (Op.var k)
  | [], _, h => by cases h
  | .var j :: os, k, h => by
    rcases List.mem_cons.mp h with e | h
    · subst e; exact ⟨0, rfl⟩
    · obtain ⟨i, e⟩ := vars_at h; exact ⟨i + 1, by simpa using e⟩
  | .d d :: os, k, h => by obtain ⟨i, e⟩ := vars_at (os := os) h; exact ⟨i + 1, by simpa using e⟩
theorem nodup_vars : ∀ {os : List Op} {i j k : Nat}, nodupB (varsOf os) = true → os[i]? = some (.var k) → os[j]? = some (.var k) → i = j
  | [], _, _, _, _, e, _ => by simp at e
  | .d d :: os, 0, _, _, _, e, _ => by simp at e
  | .d d :: os, _ + 1, 0, _, _, _, e => by simp at e
  | .d d :: os, i + 1, j + 1, k, h, e1, e2 => by
    have := nodup_vars (os := os) (i := i) (j := j) h (by simpa using e1) (by simpa using e2)
    omega
  | .var a :: os, 0, 0, _, _, _, _ => rfl
  | .var a :: os, 0, j + 1, k, h, e1, e2 => by
    simp at e1
    subst e1
    have m := mem_vars (os := os) (i := j) (by simpa using e2)
    obtain ⟨h1, _⟩ := and_split (show (!((varsOf os).contains a) && nodupB (varsOf os)) = true from h)
    have h1 := not_true h1
    simp at h1
    exact absurd m h1
  | .var a :: os, i + 1, 0, k, h, e1, e2 => by
    simp at e2
    subst e2
    have m := mem_vars (os := os) (i := i) (by simpa using e1)
    obtain ⟨h1, _⟩ := and_split (show (!((varsOf os).contains a) && nodupB (varsOf os)) = true from h)
    have h1 := not_true h1
    simp at h1
    exact absurd m h1
  | .var a :: os, i + 1, j + 1, k, h, e1, e2 => by
    obtain ⟨_, h2⟩ := and_split (show (!((varsOf os).contains a) && nodupB (varsOf os)) = true from h)
    have := nodup_vars (os := os) (i := i) (j := j) h2 (by simpa using e1) (by simpa using e2)
    omega
theorem putR_get_ne {env : Env} {i j : Nat} {u : U} (h : i ≠ j) : get (putR env i u) j = get env j := by
  simp only [putR_eq]; unfold putR0
  split
  · split
    · exact get_put_ne h
    · exact get_put_ne h
    · rfl
  · rfl
theorem putR_length {env : Env} {i : Nat} {u : U} : (putR env i u).length = env.length := by
  simp only [putR_eq]; unfold putR0
  split
  · split
    · exact put_length _ _ _
    · exact put_length _ _ _
    · rfl
  · rfl
theorem putR_congr {env env' : Env} {i : Nat} {u : U} (h : get env i = get env' i) (hl : env.length = env'.length) : get (putR env i u) i = get (putR env' i u) i := by
  simp only [putR_eq]; unfold putR0
  cases u with
  | r xs =>
    dsimp only
    rw [h]
    cases q : get env' i with
    | none => dsimp only; rw [h]
    | some w =>
      have l1 := get_some_lt q
      have l2 : i < env.length := by omega
      cases w <;> dsimp only <;> first
        | rw [get_put_same l1, get_put_same l2]
        | rw [h]
  | _ => exact h
theorem wb_length : ∀ {os : List Op} {us : List U} {env : Env}, (wb env os us).length = env.length
  | [], _, _ => rfl
  | .var _ :: _, [], _ => rfl
  | .d _ :: _, [], _ => rfl
  | .var i :: os, u :: us, env => by show (wb (putR env i u) os us).length = _; rw [wb_length, putR_length]
  | .d _ :: os, _ :: us, env => wb_length (os := os)
theorem wb_out : ∀ {os : List Op} {us : List U} {env : Env} {j : Nat}, j ∉ varsOf os → get (wb env os us) j = get env j
  | [], _, _, _, _ => rfl
  | .var _ :: _, [], _, _, _ => rfl
  | .d _ :: _, [], _, _, _ => rfl
  | .var i :: os, u :: us, env, j, h => by
    show get (wb (putR env i u) os us) j = _
    rw [wb_out (fun z => h (List.mem_cons_of_mem _ z)), putR_get_ne (fun z => h (by rw [z]; exact List.mem_cons_self))]
  | .d _ :: os, _ :: us, env, j, h => wb_out (os := os) h
theorem wb_in : ∀ {os : List Op} {us : List U} {env : Env} {i j : Nat} {u : U}, nodupB (varsOf os) = true → os[i]? = some (.var j) → us[i]? = some u → get (wb env os us) j = get (putR env j u) j
  | [], _, _, _, _, _, _, e, _ => by simp at e
  | .var _ :: _, [], _, _, _, _, _, _, e => by simp at e
  | .d _ :: _, [], _, _, _, _, _, _, e => by simp at e
  | .var a :: os, w :: us, env, 0, j, u, h, e, e2 => by
    simp at e e2
    subst e e2
    obtain ⟨h1, _⟩ := and_split (show (!((varsOf os).contains a) && nodupB (varsOf os)) = true from h)
    have h1 := not_true h1
    simp at h1
    exact wb_out h1
  | .var a :: os, w :: us, env, i + 1, j, u, h, e, e2 => by
    obtain ⟨h1, h2⟩ := and_split (show (!((varsOf os).contains a) && nodupB (varsOf os)) = true from h)
    have m := mem_vars (os := os) (i := i) (k := j) (by simpa using e)
    have ne : a ≠ j := fun z => by
      have h1 := not_true h1
      simp at h1
      exact h1 (z ▸ m)
    show get (wb (putR env a w) os us) j = _
    rw [wb_in (i := i) h2 (by simpa using e) (by simpa using e2)]
    exact putR_congr (putR_get_ne ne) putR_length
  | .d _ :: os, _ :: us, env, 0, j, u, h, e, e2 => by simp at e
  | .d _ :: os, _ :: us, env, i + 1, j, u, h, e, e2 => wb_in (os := os) (i := i) h (by simpa using e) (by simpa using e2)
section
variable {K : PySem.W.Frag} {Z : Zt} {F H F' H' : Hp} {σ : L2.St} {env : Env} {vs : List V} {os : List Op} {us us' : List U}
/-- a lent argument is an own slot -/
theorem ref_slot (S : SR K Z F H σ env) (r : ROs F σ vs os) (e : argUs env os = some us) {i : Nat} {xs : List D} (h : us[i]? = some (.r xs)) : ∃ k a, os[i]? = some (.var k) ∧ vs[i]? = some (.ref a) ∧ σ[k]? = some (some (.ref a)) ∧ Own env k ∧ cellOf env k = some xs := by
  obtain ⟨o, h1, h2⟩ := argUs_get e h
  cases o with
  | d d => cases h2
  | var k =>
    obtain ⟨v, h3, h4⟩ := pair_get r h1
    have h4 : σ[k]? = some (some v) := h4
    simp only [argU] at h2
    cases q : get env k with
    | none => rw [q] at h2; cases h2
    | some u =>
      rw [q] at h2
      cases u with
      | o ys =>
        cases h2
        obtain ⟨a, ws, zs, e1, _⟩ := S.own (.inl ⟨_, q⟩)
        rw [h4] at e1; cases e1
        exact ⟨k, a, h1, h3, h4, .inl ⟨_, q⟩, by unfold cellOf; rw [q]⟩
      | r ys =>
        cases h2
        obtain ⟨a, ws, zs, e1, _⟩ := S.own (.inr ⟨_, q⟩)
        rw [h4] at e1; cases e1
        exact ⟨k, a, h1, h3, h4, .inr ⟨_, q⟩, by unfold cellOf; rw [q]⟩
      | s ns => cases h2
      | v d => cases h2
      | x c fs => cases h2
theorem args_rel (S : SR K Z F H σ env) {P : Hp} (hP : ∀ b o, Z.P b = some o → P b = some o) : ∀ {vs : List V} {os : List Op} {us : List U}, ROs F σ vs os → argUs env os = some us → Paired (ArgR K F H P) vs us
  | _, _, us, .nil, e => by cases e; exact .nil
  | _, _, us, .cons (a := v) (b := o) (l₂ := os) h t, e => by
    simp only [argUs] at e
    cases q : argU env o with
    | none => rw [q] at e; cases e
    | some u =>
      rw [q] at e
      cases q2 : argUs env os with
      | none => rw [q2] at e; cases e
      | some us2 =>
        rw [q2] at e; cases e
        refine .cons ?_ (args_rel S hP t q2)
        cases o with
        | d d => cases q; exact h
        | var k =>
          have h : σ[k]? = some (some v) := h
          simp only [argU] at q
          cases g : get env k with
          | none => rw [g] at q; cases q
          | some w =>
            rw [g] at q
            obtain ⟨v', e1, r⟩ := S.slot k w g
            rw [h] at e1; cases e1
            cases w with
            | o ys => cases q; obtain ⟨a, ws, rfl, k1, k2, k3, _⟩ := r; exact ⟨a, ws, rfl, k1, k2, k3⟩
            | r ys => cases q; obtain ⟨a, ws, rfl, k1, k2, k3, _⟩ := r; exact ⟨a, ws, rfl, k1, k2, k3⟩
            | s ns => cases q; obtain ⟨a, rfl, k1, k2, _⟩ := r; exact ⟨a, rfl, Same.seq hP k1, k2⟩
            | v d => cases q
            | x c fs => cases q
theorem args_apart (S : SR K Z F H σ env) (r : ROs F σ vs os) (e : argUs env os = some us) (nd : nodupB (varsOf os) = true) : Apart vs us := by
  intro i j xs ys a ne h1 h2 h3 h4
  obtain ⟨k, b, o1, v1, s1, own1, _⟩ := ref_slot S r e h1
  obtain ⟨l, c, o2, v2, s2, own2, _⟩ := ref_slot S r e h2
  rw [h3] at v1; cases v1
  rw [h4] at v2; cases v2
  have kl : k ≠ l := fun z => by subst z; exact ne (nodup_vars nd o1 o2)
  exact S.dis k l _ kl own1 own2 s1 s2
theorem prot_keep (S : SR K Z F H σ env) (r : ROs F σ vs os) (e : argUs env os = some us) : ∀ b o, Z.P b = some o → Prot H vs us b = some o := by
  intro b o h
  unfold Prot
  rw [if_neg]
  · exact S.keep _ _ h
  · rintro ⟨i, xs, h1, h2⟩
    obtain ⟨k, a, _, v1, s1, own1, _⟩ := ref_slot S r e h1
    rw [h2] at v1; cases v1
    obtain ⟨a', _, _, e1, _, _, _, e2, _⟩ := S.own own1
    rw [s1] at e1; cases e1
    rw [h] at e2; cases e2
theorem own_wb (S : SR K Z F H σ env) (r : ROs F σ vs os) (e : argUs env os = some us) (nd : nodupB (varsOf os) = true) {j : Nat} (o : Own (wb env os us') j) : Own env j := by
  by_cases hj : j ∈ varsOf os
  · obtain ⟨i, hi⟩ := vars_at hj
    -- its own kind stays
    cases q : us'[i]? with
    | none =>
      -- the list of results is too short: nothing is written
      have : ∀ {os : List Op} {us' : List U} {env : Env} {i : Nat}, nodupB (varsOf os) = true → os[i]? = some (.var j) → us'[i]? = none → get (wb env os us') j = get env j := by
        intro os
        induction os with
        | nil => intro _ _ _ _ e _; simp at e
        | cons o os ih =>
          intro us' env i nd e hn
          cases us' with
          | nil => cases o <;> rfl
          | cons w ws =>
            cases i with
            | zero => simp at hn
            | succ i =>
              cases o with
              | d d => exact ih (i := i) nd (by simpa using e) (by simpa using hn)
              | var a =>
                obtain ⟨h1, h2⟩ := and_split (show (!((varsOf os).contains a) && nodupB (varsOf os)) = true from nd)
                have m := mem_vars (os := os) (i := i) (k := j) (by simpa using e)
                have ne : a ≠ j := fun z => by
                  have h1 := not_true h1
                  simp at h1
                  exact h1 (z ▸ m)
                show get (wb (putR env a w) os ws) j = _
                rw [ih (i := i) h2 (by simpa using e) (by simpa using hn), putR_get_ne ne]
      have g := this (env := env) nd hi q
      rcases o with ⟨xs, h⟩ | ⟨xs, h⟩
      · rw [g] at h; exact .inl ⟨xs, h⟩
      · rw [g] at h; exact .inr ⟨xs, h⟩
    | some u =>
      have g := wb_in (env := env) nd hi q
      have : ∀ {w : U}, get (putR env j u) j = some w → (∃ xs, w = .o xs) ∨ (∃ xs, w = .r xs) → Own env j := by
        intro w hw hk
        rw [putR_eq] at hw; unfold putR0 at hw
        split at hw
        · split at hw
          · exact .inl ⟨_, by assumption⟩
          · exact .inr ⟨_, by assumption⟩
          · rcases hk with ⟨xs, rfl⟩ | ⟨xs, rfl⟩
            · exact .inl ⟨xs, hw⟩
            · exact .inr ⟨xs, hw⟩
        · rcases hk with ⟨xs, rfl⟩ | ⟨xs, rfl⟩
          · exact .inl ⟨xs, hw⟩
          · exact .inr ⟨xs, hw⟩
      rcases o with ⟨xs, h⟩ | ⟨xs, h⟩
      · exact this (g ▸ h) (.inl ⟨xs, rfl⟩)
      · exact this (g ▸ h) (.inr ⟨xs, rfl⟩)
  · rcases o with ⟨xs, h⟩ | ⟨xs, h⟩
    · rw [wb_out hj] at h; exact .inl ⟨xs, h⟩
    · rw [wb_out hj] at h; exact .inr ⟨xs, h⟩
/-- behind a call -/
theorem SR.after (S : SR K Z F H σ env) (r : ROs F σ vs os) (e : argUs env os = some us) (nd : nodupB (varsOf os) = true) (A : After F H F' H' vs us us') : SR K Z F' H' σ (wb env os us') := by
  have notRef : ∀ {j : Nat} {a : Addr}, j ∉ varsOf os → Own env j → σ[j]? = some (some (.ref a)) → ¬ RefAt vs us a := by
    rintro j a hj oj sj ⟨i, xs, h1, h2⟩
    obtain ⟨k, b, o1, v1, s1, own1, _⟩ := ref_slot S r e h1
    rw [h2] at v1; cases v1
    have kj : k ≠ j := fun z => hj (z ▸ mem_vars o1)
    exact S.dis k j _ kj own1 oj s1 sj
  have frozen : ∀ {a : Addr} {o : HO}, H a = some o → F a = none → F' a = none := fun {a o} h1 h2 => by
    cases q : F' a with
    | none => rfl
    | some x =>
      rcases A.new a (by rw [q]; simp) with z | z
      · exact absurd h2 z
      · rw [h1] at z; cases z
  refine ⟨by rw [wb_length]; exact S.len, A.le, fun b o q => ?_, S.base.trans A.f, fun b q => ?_, fun b q => ?_, fun j u q => ?_, fun i j a ne oi oj => ?_, fun j b hb => ?_⟩
  · refine A.keep b o (S.keep _ _ q) ?_
    rintro ⟨i, xs, h1, h2⟩
    obtain ⟨k, a, _, v1, s1, own1, _⟩ := ref_slot S r e h1
    rw [h2] at v1; cases v1
    obtain ⟨a', _, _, e1, _, _, _, e2, _⟩ := S.own own1
    rw [s1] at e1; cases e1
    rw [q] at e2; cases e2
  · rcases A.new b q with z | z
    · exact S.new b z
    · exact .inr ⟨S.dom b z, S.noneP z⟩
  · refine S.dom b ?_
    cases g : H b with
    | none => rfl
    | some o =>
      by_cases hr : RefAt vs us b
      · obtain ⟨i, xs, h1, h2⟩ := hr
        obtain ⟨ys, a, ws, _, h3, h4, _⟩ := A.refs i xs h1
        rw [h2] at h3; cases h3
        rw [q] at h4; cases h4
      · have := A.keep b o g hr
        rw [q] at this; cases this
  · by_cases hj : j ∈ varsOf os
    · obtain ⟨i, hi⟩ := vars_at hj
      obtain ⟨v, hv, hv2⟩ := pair_get r hi
      have hv2 : σ[j]? = some (some v) := hv2
      -- what the argument was
      have hu : ∃ w, us[i]? = some w ∧ argU env (.var j) = some w := by
        have : ∀ {os : List Op} {us : List U} {i : Nat} {o : Op}, argUs env os = some us → os[i]? = some o → ∃ w, us[i]? = some w ∧ argU env o = some w := by
          intro os
          induction os with
          | nil => intro _ _ _ _ e; simp at e
          | cons o os ih =>
            intro us i o' e1 e2
            simp only [argUs] at e1
            cases q : argU env o with
            | none => rw [q] at e1; cases e1
            | some d =>
              rw [q] at e1
              cases q2 : argUs env os with
              | none => rw [q2] at e1; cases e1
              | some ds =>
                rw [q2] at e1; cases e1
                cases i with
                | zero => simp at e2; subst e2; exact ⟨d, rfl, q⟩
                | succ i =>
                  obtain ⟨w, h1, h2⟩ := ih (i := i) q2 (by simpa using e2)
                  exact ⟨w, by simpa using h1, h2⟩
        exact this e hi
      obtain ⟨w, hw, hw2⟩ := hu
      simp only [argU] at hw2
      cases g : get env j with
      | none => rw [g] at hw2; cases hw2
      | some t =>
        rw [g] at hw2
        have lj := get_some_lt g
        obtain ⟨v', e1, rr⟩ := S.slot j t g
        rw [hv2] at e1; cases e1
        cases t with
        | o xs =>
          cases hw2
          obtain ⟨ys, a, ws, k1, k2, k3, k4, k5⟩ := A.refs i xs hw
          rw [hv] at k2; cases k2
          have q2 : get (putR env j (.r ys)) j = some u := by rw [← wb_in nd hi k1]; exact q
          rw [putR_eq] at q2; unfold putR0 at q2
          rw [g] at q2
          dsimp only at q2
          rw [get_put_same lj] at q2
          cases q2
          obtain ⟨b, us2, eb, _, _, _, n1, n2⟩ := rr
          cases eb
          exact ⟨.ref a, hv2, a, ws, rfl, k3, k4, k5, n1, n2⟩
        | r xs =>
          cases hw2
          obtain ⟨ys, a, ws, k1, k2, k3, k4, k5⟩ := A.refs i xs hw
          rw [hv] at k2; cases k2
          have q2 : get (putR env j (.r ys)) j = some u := by rw [← wb_in nd hi k1]; exact q
          rw [putR_eq] at q2; unfold putR0 at q2
          rw [g] at q2
          dsimp only at q2
          rw [get_put_same lj] at q2
          cases q2
          obtain ⟨b, us2, eb, _, _, _, n1, n2⟩ := rr
          cases eb
          exact ⟨.ref a, hv2, a, ws, rfl, k3, k4, k5, n1, n2⟩
        | s ns =>
          have nn : ∀ {u2 : U}, get (putR env j u2) j = get env j := fun {u2} => by
            simp only [putR_eq]; unfold putR0
            split
            · rw [g]
              first | exact g | rfl
            · rfl
          have q3 : get env j = some u := by
            cases z : us'[i]? with
            | some u2 => rw [← nn (u2 := u2), ← wb_in nd hi z]; exact q
            | none =>
              have : ∀ {os : List Op} {us' : List U} {env : Env} {i : Nat}, nodupB (varsOf os) = true → os[i]? = some (.var j) → us'[i]? = none → get (wb env os us') j = get env j := by
                intro os
                induction os with
                | nil => intro _ _ _ _ e _; simp at e
                | cons o os ih =>
                  intro us' env i nd e hn
                  cases us' with
                  | nil => cases o <;> rfl
                  | cons w ws =>
                    cases i with
                    | zero => simp at hn
                    | succ i =>
                      cases o with
                      | d d => exact ih (i := i) nd (by simpa using e) (by simpa using hn)
                      | var a =>
                        obtain ⟨h1, h2⟩ := and_split (show (!((varsOf os).contains a) && nodupB (varsOf os)) = true from nd)
                        have m := mem_vars (os := os) (i := i) (k := j) (by simpa using e)
                        have ne : a ≠ j := fun z => by
                          have h1 := not_true h1
                          simp at h1
                          exact h1 (z ▸ m)
                        show get (wb (putR env a w) os ws) j = _
                        rw [ih (i := i) h2 (by simpa using e) (by simpa using hn), putR_get_ne ne]
              rw [← this nd hi z]; exact q
          rw [g] at q3; cases q3
          exact ⟨v, hv2, rr⟩
        | v d => cases hw2
        | x c fs => cases hw2
    · rw [wb_out hj] at q
      obtain ⟨v, e1, rr⟩ := S.slot j u q
      refine ⟨v, e1, ?_⟩
      cases u with
      | v d => exact Rep.mono A.f rr
      | o xs =>
        obtain ⟨a, ws, rfl, k1, k2, k3, n1, n2⟩ := rr
        exact ⟨a, ws, rfl, A.keep _ _ k1 (notRef hj (.inl ⟨xs, q⟩) e1), frozen k1 k2, k3.mono A.f, n1, n2⟩
      | r xs =>
        obtain ⟨a, ws, rfl, k1, k2, k3, n1, n2⟩ := rr
        exact ⟨a, ws, rfl, A.keep _ _ k1 (notRef hj (.inr ⟨xs, q⟩) e1), frozen k1 k2, k3.mono A.f, n1, n2⟩
      | s ns => exact rr
      | x c fs => exact rr
  · exact S.dis i j a ne (own_wb S r e nd oi) (own_wb S r e nd oj)
  · obtain ⟨⟨xs, g⟩, g2⟩ := S.ref j b hb
    refine ⟨?_, g2⟩
    by_cases hj : j ∈ varsOf os
    · obtain ⟨i, hi⟩ := vars_at hj
      have hu : ∃ i' : Nat, us[i']? = some (U.r xs) ∧ os[i']? = some (Op.var j) := by
        have : ∀ {os : List Op} {us : List U} {i : Nat} {o : Op}, argUs env os = some us → os[i]? = some o → ∃ w, us[i]? = some w ∧ argU env o = some w := by
          intro os
          induction os with
          | nil => intro _ _ _ _ e; simp at e
          | cons o os ih =>
            intro us i o' e1 e2
            simp only [argUs] at e1
            cases q : argU env o with
            | none => rw [q] at e1; cases e1
            | some d =>
              rw [q] at e1
              cases q2 : argUs env os with
              | none => rw [q2] at e1; cases e1
              | some ds =>
                rw [q2] at e1; cases e1
                cases i with
                | zero => simp at e2; subst e2; exact ⟨d, rfl, q⟩
                | succ i =>
                  obtain ⟨w, h1, h2⟩ := ih (i := i) q2 (by simpa using e2)
                  exact ⟨w, by simpa using h1, h2⟩
        obtain ⟨w, h1, h2⟩ := this e hi
        simp only [argU] at h2
        rw [g] at h2
        cases h2
        exact ⟨i, h1, hi⟩
      obtain ⟨i', hw, hi'⟩ := hu
      obtain ⟨ys, a, ws, k1, _⟩ := A.refs i' xs hw
      rw [wb_in nd hi' k1]
      simp only [putR_eq]; unfold putR0
      rw [g]
      exact ⟨ys, get_put_same (get_some_lt g)⟩
    · rw [wb_out hj]; exact ⟨xs, g⟩
end
section
variable {Γ : Nat → Option FS} {CT : CTab} {X : Cx} {W : WX} {cc : CC} {Z : Zt} {n : Nat}
/-- a call's promise is asked -/
theorem call_read {K : PySem.W.Frag} {σ : L2.St} {F F1 H1 : Hp} {env1 : Env} {vs : List V} {os : List Op} {S : FS} {Q : VK} {us : List U} (S1 : SR K Z F1 H1 σ env1) (s1 : Same F F1) (r1 : ROs F1 σ vs os) (e : argUs env1 os = some us) (nd : nodupB (varsOf os) = true)
    (q : ∃ a : S.α, us = S.args a ∧ S.pre a ∧ (∀ r us', S.post a r us' → PV K Z σ F Q r (wb env1 os us')) ∧ ∀ x us', S.exc a x us' → PX CT K W Z σ F x (wb env1 os us')) : spOf K CT S vs H1 Q (L2.WE W σ) := by
  obtain ⟨a, rfl, p, q1, q2⟩ := q
  refine ⟨a, F1, S1.le, args_rel S1 (prot_keep S1 r1 e) r1 e, args_apart S1 r1 e nd, p, fun r us' v F' H' h A rn => ?_, fun x us' cls d F' H' h A xr => ?_⟩
  · have S2 := S1.after r1 e nd A
    refine q1 r us' h v F' H' (s1.trans A.f) S2 ?_
    cases r with
    | v d => exact rn
    | o xs =>
      obtain ⟨b, ws, rfl, h1, h2, h3, h4⟩ := rn
      refine ⟨b, ws, rfl, h2, h3, h4, S1.dom b h1, S1.noneP h1, fun i o z => ?_⟩
      obtain ⟨a', ws', xs', e1, e2, _⟩ := S1.own (own_wb S1 r1 e nd o)
      rw [z] at e1; cases e1; rw [h1] at e2; cases e2
    | r xs => exact rn
    | s ns => exact rn
    | x c fs => exact rn
  · exact q2 x us' h cls d F' H' (s1.trans A.f) (S1.after r1 e nd A) xr
theorem snd_call (IH : SoundE Γ CT n) (ok : Ok Γ CT X W cc) (Z : Zt) {f : Nat} {as : List M} {e : Expr} (h : chkE (n + 1) cc (.call f as) e = true) : PE X e (tE Γ CT X.K W Z (n + 1) (.call f as)) := by
  cases e with
  | Call g es kws p =>
    cases g with
    | Name x xp =>
      cases kws with
      | cons k ks => cases h
      | nil =>
        obtain ⟨h, h3⟩ := and_split (show (decide (cc.fns[f]? = some x) && gloB cc x && chkA cc (chkE n cc) as es) = true from h)
        obtain ⟨h1, h2⟩ := and_split h
        obtain ⟨g, gd⟩ := ok.gl h2
        cases hf : Γ f with
        | none =>
          obtain ⟨S, z⟩ := ok.full f x (of_decide_eq_true h1)
          rw [hf] at z; cases z
        | some S =>
          obtain ⟨x', fa, fd, ps, k, hx, hm, hk, hb, hF, hr, _⟩ := (ok.fns f S hf).ex
          rw [of_decide_eq_true h1] at hx
          cases hx
          have read : ∀ σ H Q, tE Γ CT X.K W Z (n + 1) (.call f as) σ H Q → tAs Γ CT X.K W Z n as σ H fun vs H1 => spOf X.K CT S vs H1 Q (L2.WE W σ) := by
            rintro σ H Q ⟨F, env, S0, q⟩
            rw [wpE_succ] at q
            unfold wpE1 at q
            dsimp only at q
            refine ⟨F, env, S0, wpAs_mono (wpE_mono Γ n) q (fun _ _ z => z) fun os env1 q1 vs F1 H1 s1 S1 r1 => ?_⟩
            obtain ⟨us, e1, q1⟩ := optP_get q1
            obtain ⟨nd, q1⟩ := ckP_get q1
            obtain ⟨S', e2, q1⟩ := callP_get q1
            rw [hf] at e2
            cases e2
            obtain ⟨a0, ea, pa, qa, qx⟩ := q1
            exact call_read S1 s1 r1 e1 nd ⟨a0, ea, pa, fun r us' h => envP_get (qa r us' h), qx⟩
          cases es with
          | nil =>
            cases as with
            | cons m ms => cases m <;> cases h3
            | nil =>
              refine ⟨fun pins s σ H Q I q => ?_⟩
              obtain ⟨F, env, S0, q⟩ := read σ H Q q
              have q2 := q [] F H same_refl S0 .nil
              exact wpAny_Call_Name_kw (ld_glob I g hm (PySem.W.callWith_K0 I.kIn hk (run_fnS (us := []) hF hr hb (passAt ok.tk σ) I .nil q2)) gd)
          | cons e1 es =>
            obtain ⟨st1, st2⟩ := star_first (fun m e he es => chk_star he [] es _) h3
            exact PE.imp (pe_callS hF hr g hm hk hb (fun σ => passAt ok.tk σ) (snd_As IH ok Z h3) gd st1 (st2 _)) read
    | _ => cases h
  | _ => cases h
end
end GM

set_option maxRecDepth 100000
/-! GM: calls with keywords -/
namespace GM
open PySem PySem.Spec PyProof.Rows L2
theorem perm_pair {α β : Type} {R : α → β → Prop} {xs : List α} {ys : List β} (h : Paired R xs ys) : ∀ {perm : List Nat} {zs : List β}, perm.mapM (fun k => ys[k]?) = some zs → Paired R (perm.filterMap fun k => xs[k]?) zs
  | [], zs, e => by
    have e : zs = [] := by simpa using e.symm
    subst e
    exact .nil
  | k :: ks, zs, e => by
    rw [List.mapM_cons] at e
    cases q : ys[k]? with
    | none => rw [q] at e; cases e
    | some y =>
      rw [q] at e
      cases q2 : ks.mapM (fun k => ys[k]?) with
      | none => rw [q2] at e; cases e
      | some zs' =>
        rw [q2] at e
        cases e
        obtain ⟨x, h1, h2⟩ := pair_get h q
        rw [List.filterMap_cons, h1]
        exact .cons h2 (perm_pair h q2)
theorem pair_app {α β : Type} {R : α → β → Prop} : ∀ {xs : List α} {ys : List β} {xs2 : List α} {ys2 : List β}, Paired R xs ys → Paired R xs2 ys2 → Paired R (xs ++ xs2) (ys ++ ys2)
  | _, _, _, _, .nil, h => h
  | _, _, _, _, .cons a t, h => .cons a (pair_app t h)
theorem vals_get : ∀ {xs : List V} {us : List Value} {k : Nat}, Vals xs us → (xs[k]? = none ∧ us[k]? = none) ∨ ∃ x u, xs[k]? = some x ∧ us[k]? = some u ∧ RelV x u
  | _, _, _, .nil => .inl ⟨by simp, by simp⟩
  | _, _, 0, .cons r _ => .inr ⟨_, _, rfl, rfl, r⟩
  | _, _, k + 1, .cons _ t => by
    rcases vals_get (k := k) t with ⟨a, b⟩ | ⟨x, u, a, b, r⟩
    · exact .inl ⟨by simpa using a, by simpa using b⟩
    · exact .inr ⟨x, u, by simpa using a, by simpa using b, r⟩
theorem vals_perm {xs : List V} {us : List Value} (h : Vals xs us) : ∀ perm : List Nat, Vals (perm.filterMap fun k => xs[k]?) (perm.filterMap fun k => us[k]?)
  | [] => .nil
  | k :: ks => by
    rcases vals_get (k := k) h with ⟨a, b⟩ | ⟨x, u, a, b, r⟩
    · rw [List.filterMap_cons, List.filterMap_cons, a, b]; exact vals_perm h ks
    · rw [List.filterMap_cons, List.filterMap_cons, a, b]; exact .cons r (vals_perm h ks)
theorem PK.imp {X : Cx} {es : List Keyword} {t t' : TA} (h : PK X es t) (f : ∀ σ H Q, t' σ H Q → t σ H Q) : PK X es t' := ⟨fun pos pins s σ H Q I q => h.run pos pins s σ H Q I (f _ _ _ q)⟩
section
variable {Γ : Nat → Option FS} {CT : CTab} {X : Cx} {W : WX} {cc : CC} {Z : Zt} {n : Nat} (IH : SoundE Γ CT n)
include IH
theorem snd_Ks (ok : Ok Γ CT X W cc) (Z : Zt) : ∀ {ms : List M} {kws : List Keyword}, chkA cc (chkE n cc) ms (kws.map (·.value)) = true → PK X kws (tAs Γ CT X.K W Z n ms)
  | [], [], _ => PK.imp pk_nil fun σ H Q ⟨F, env, S, q⟩ => q [] F H same_refl S .nil
  | m :: ms, ⟨nm, e, kp⟩ :: es, h => by
    have M := wpE_mono Γ n
    have h : chkA cc (chkE n cc) (m :: ms) (e :: es.map (·.value)) = true := h
    by_cases hv : ∃ i, m = .refv i
    · obtain ⟨i, rfl⟩ := hv
      cases e with
      | Name x p =>
        obtain ⟨h1, h2⟩ := and_split (show (nameB cc i x && chkA cc (chkE n cc) ms (es.map (·.value))) = true from h)
        refine PK.imp (pk_cons (pe_name ok h1) (snd_Ks ok Z h2)) fun σ H Q ⟨F, env, S, q⟩ => ?_
        obtain ⟨u, e1, q⟩ := optP_get q
        obtain ⟨v, e2, _⟩ := S.slot i u e1
        refine ⟨v, e2, F, env, S, wpAs_mono M q (fun _ _ z => z) fun os env2 q2 vs F2 H2 s2 S2 r2 => ?_⟩
        exact q2 (v :: vs) F2 H2 s2 S2 (.cons e2 r2)
      | _ =>
        have h' : (chkE n cc (.refv i) _ && chkA cc (chkE n cc) ms (es.map (·.value))) = true := h
        obtain ⟨h1, _⟩ := and_split h'
        cases n <;> cases h1
    · have h' : (chkE n cc m e && chkA cc (chkE n cc) ms (es.map (·.value))) = true := by
        cases m <;> first | exact h | exact absurd ⟨_, rfl⟩ hv
      obtain ⟨h1, h2⟩ := and_split h'
      refine PK.imp (pk_cons (IH cc X W ok Z m e h1) (snd_Ks ok Z h2)) fun σ H Q ⟨F, env, S, q⟩ => ⟨F, env, S, ?_⟩
      have q' : wpE Γ n m env (PX CT X.K W Z σ F) fun u env1 => optP u.fz fun d => wpAs (wpE Γ n) ms env1 (PX CT X.K W Z σ F) fun os env2 => ∀ vs F' H', Same F F' → SR X.K Z F' H' σ env2 → ROs F' σ vs (.d d :: os) → Q vs H' := by
        cases m <;> first | exact q | exact absurd ⟨_, rfl⟩ hv
      refine M _ _ _ _ _ _ q' (fun _ _ z => z) fun u env1 q1 v F1 H1 s1 S1 r1 => ?_
      obtain ⟨d, e1, q1⟩ := optP_get q1
      obtain ⟨F2, s2, S2, r2⟩ := RU.fz S1 r1 e1
      refine ⟨F2, env1, S2, wpAs_mono M q1 (PX.lift (s1.trans s2)) fun ds env2 q2 vs F3 H3 s3 S3 r3 => ?_⟩
      exact q2 (v :: vs) F3 H3 ((s1.trans s2).trans s3) S3 (.cons (r2.mono s3) r3)
  | [], _ :: _, h => by cases h
  | m :: _, [], h => by cases m <;> cases h
omit IH in
theorem wpAs_len {rec : WE} (MR : MonoE rec) : ∀ {ms : List M} {env : Env} {Qx : QX} {Q : List Op → Env → Prop}, wpAs rec ms env Qx Q → wpAs rec ms env Qx fun ds e => ds.length = ms.length ∧ Q ds e
  | [], _, _, _, h => ⟨rfl, h⟩
  | m :: ms, env, Qx, Q, h => by
    by_cases hv : ∃ i, m = .refv i
    · obtain ⟨i, rfl⟩ := hv
      exact optP_mono h fun _ h2 => wpAs_mono MR (wpAs_len MR h2) (fun _ _ z => z) fun _ _ ⟨e, q⟩ => ⟨by simp [e], q⟩
    · have q' : rec m env Qx fun u env1 => optP u.fz fun d => wpAs rec ms env1 Qx fun os env2 => Q (.d d :: os) env2 := by
        cases m <;> first | exact h | exact absurd ⟨_, rfl⟩ hv
      have r : rec m env Qx fun u env1 => optP u.fz fun d => wpAs rec ms env1 Qx fun os env2 => (Op.d d :: os).length = (m :: ms).length ∧ Q (.d d :: os) env2 :=
        MR _ _ _ _ _ _ q' (fun _ _ z => z) fun _ _ h1 => optP_mono h1 fun _ h2 => wpAs_mono MR (wpAs_len MR h2) (fun _ _ z => z) fun _ _ ⟨e, q⟩ => ⟨by simp [e], q⟩
      cases m <;> first | exact r | exact absurd ⟨_, rfl⟩ hv
omit IH in
theorem chkA_len {rec : M → Expr → Bool} : ∀ {ms : List M} {es : List Expr}, chkA cc rec ms es = true → ms.length = es.length
  | [], [], _ => rfl
  | m :: ms, e :: es, h => by
    have h2 : chkA cc rec ms es = true := by
      cases m <;> first | exact (and_split h).2 | (cases e <;> exact (and_split h).2)
    simp [chkA_len h2]
  | [], _ :: _, h => by cases h
  | m :: _, [], h => by cases m <;> cases h
theorem snd_callk (ok : Ok Γ CT X W cc) (Z : Zt) {f : Nat} {as ks : List M} {perm : List Nat} {e : Expr} (h : chkE (n + 1) cc (.callk f as ks perm) e = true) : PE X e (tE Γ CT X.K W Z (n + 1) (.callk f as ks perm)) := by
  cases e with
  | Call g es kws p =>
    cases g with
    | Name x xp =>
      obtain ⟨h, h6⟩ := and_split (show (decide (cc.fns[f]? = some x) && gloB cc x && chkA cc (chkE n cc) as es && chkA cc (chkE n cc) ks (kws.map (·.value)) && kws.all (·.arg.isSome) && decide ((f, es.length, kws.filterMap (·.arg), perm) ∈ cc.pats)) = true from h)
      obtain ⟨h, h5⟩ := and_split h
      obtain ⟨h, h4⟩ := and_split h
      obtain ⟨h, h3⟩ := and_split h
      obtain ⟨h1, h2⟩ := and_split h
      obtain ⟨g, gd⟩ := ok.gl h2
      cases hf : Γ f with
      | none =>
        obtain ⟨S, z⟩ := ok.full f x (of_decide_eq_true h1)
        rw [hf] at z; cases z
      | some S =>
        obtain ⟨x', fa, fd, ps, k, hx, hm, hk, hb, hF, hr, hkb⟩ := (ok.fns f S hf).ex
        rw [of_decide_eq_true h1] at hx
        cases hx
        have kb := hkb _ (of_decide_eq_true h6) rfl
        have M := wpE_mono Γ n
        have read : ∀ σ H Q, tE Γ CT X.K W Z (n + 1) (.callk f as ks perm) σ H Q → tAs Γ CT X.K W Z n as σ H fun vs H1 => tAs Γ CT X.K W Z n ks σ H1 fun zs H2 => vs.length = es.length ∧ zs.length = kws.length ∧ spOf X.K CT S (perm.filterMap fun k => (vs ++ zs)[k]?) H2 Q (L2.WE W σ) := by
          rintro σ H Q ⟨F, env, S0, q⟩
          rw [wpE_succ] at q
          unfold wpE1 at q
          dsimp only at q
          refine ⟨F, env, S0, wpAs_mono M (wpAs_len M q) (fun _ _ z => z) fun os env1 ⟨l1, q1⟩ vs F1 H1 s1 S1 r1 => ?_⟩
          refine ⟨F1, env1, S1, wpAs_mono M (wpAs_len M q1) (PX.lift s1) fun os2 env2 ⟨l2, q2⟩ zs F2 H2 s2 S2 r2 => ?_⟩
          obtain ⟨os3, e3, q3⟩ := optP_get q2
          obtain ⟨us, e1, q4⟩ := optP_get q3
          obtain ⟨nd, q5⟩ := ckP_get q4
          obtain ⟨S', e2, q6⟩ := callP_get q5
          rw [hf] at e2
          cases e2
          have lv : vs.length = os.length := by
            have : ∀ {xs : List V} {ys : List Op} {R : V → Op → Prop}, Paired R xs ys → xs.length = ys.length := by
              intro xs ys R h
              induction h with
              | nil => rfl
              | cons _ _ ih => simp [ih]
            exact this r1
          have lz : zs.length = os2.length := by
            have : ∀ {xs : List V} {ys : List Op} {R : V → Op → Prop}, Paired R xs ys → xs.length = ys.length := by
              intro xs ys R h
              induction h with
              | nil => rfl
              | cons _ _ ih => simp [ih]
            exact this r2
          have r3 := perm_pair (pair_app (ROs.mono s2 r1) r2) e3
          refine ⟨by rw [lv, l1, chkA_len h3], by rw [lz, l2, chkA_len h4, List.length_map], ?_⟩
          obtain ⟨a0, ea, pa, qa, qx⟩ := q6
          exact call_read S2 (s1.trans s2) r3 e1 nd ⟨a0, ea, pa, fun r us' h => envP_get (qa r us' h), qx⟩
        have named : (backToKw p (keywordEach kws X.env)).all (·.1.isSome) = true ∧ (backToKw p (keywordEach kws X.env)).filterMap (·.1) = kws.filterMap (·.arg) ∧ (backToKw p (keywordEach kws X.env)).any (·.1.isNone) = false := by
          have : ∀ {kws : List Keyword}, kws.all (·.arg.isSome) = true → (backToKw p (keywordEach kws X.env)).all (·.1.isSome) = true ∧ (backToKw p (keywordEach kws X.env)).filterMap (·.1) = kws.filterMap (·.arg) ∧ (backToKw p (keywordEach kws X.env)).any (·.1.isNone) = false := by
            intro kws
            induction kws with
            | nil => intro _; exact ⟨rfl, rfl, rfl⟩
            | cons kw kws ih =>
              intro h
              obtain ⟨nm, v, kp⟩ := kw
              obtain ⟨a, b⟩ := and_split (show ((nm.isSome) && kws.all (·.arg.isSome)) = true from h)
              obtain ⟨i1, i2, i3⟩ := ih b
              cases nm with
              | none => cases a
              | some nm =>
                unfold backToKw at i1 i2 i3 ⊢
                unfold keywordEach
                refine ⟨?_, ?_, ?_⟩
                · rw [List.map_cons, List.all_cons, i1]; rfl
                · rw [List.map_cons, List.filterMap_cons, List.filterMap_cons, i2]
                · rw [List.map_cons, List.any_cons, i3]; rfl
          exact this h5
        have kl : kws.length = (kws.filterMap (·.arg)).length := by
          have : ∀ {kws : List Keyword}, kws.all (·.arg.isSome) = true → kws.length = (kws.filterMap (·.arg)).length := by
            intro kws
            induction kws with
            | nil => intro _; rfl
            | cons kw kws ih =>
              intro h
              obtain ⟨nm, v, kp⟩ := kw
              obtain ⟨a, b⟩ := and_split (show ((nm.isSome) && kws.all (·.arg.isSome)) = true from h)
              cases nm with
              | none => cases a
              | some nm => rw [List.filterMap_cons]; simp [ih b]
          exact this h5
        -- the callee runs
        have go : ∀ {pins : List (Addr × Obj)} {s : Shared} {σ : L2.St} {H : Hp} {Q : VK} {us ws : List Value} {vs zs : List V}, Inv X pins σ H s → Vals vs us → Vals zs ws → vs.length = es.length → zs.length = kws.length → spOf X.K CT S (perm.filterMap fun k => (vs ++ zs)[k]?) H Q (L2.WE W σ) →
            wpAny (model X.prog X.w) X.A (call (.ref fa) us ((kws.filterMap (·.arg)).zip ws)) (EP X pins σ Q) X.xe s := by
          intro pins s σ H Q us ws vs zs I r rz lv lz hs
          have r2 := vals_perm (r.append rz) perm
          have b := kb s us ws I.kIn (by rw [← r.length]; exact lv) (by rw [← rz.length, lz]; exact kl)
          refine wpAny_call (codeAny_mono (hF.run X.A X.stack s H _ _ _ Q _ hr I.env0 b r2 hs) fun r s' hq => ?_)
          cases r with
          | error e => exact passAt ok.tk σ pins H s e s' I hq
          | ok fl =>
            cases fl with
            | ret u => exact I.after hq
            | next => exact False.elim hq
            | brk => exact False.elim hq
            | cont => exact False.elim hq
        have pk := snd_Ks IH ok Z h4
        refine ⟨fun pins s σ H Q I q => ?_⟩
        have q := read σ H Q q
        refine wpAny_Call_Name_kw (ld_glob I g hm ?_ gd)
        cases es with
        | nil =>
          cases as with
          | cons m ms => cases m <;> cases h3
          | nil =>
            obtain ⟨F, env, S0, q⟩ := q
            have q2 := q [] F H same_refl S0 .nil
            refine PySem.W.callWith_KW0 (h₀ := X.base) I.ok.mod.kin hk named.1 (thn (pk.run p pins s σ H _ I q2) fun ws s2 ⟨zs, H2, I2, rz, lv, lz, q3⟩ => ⟨I2.kIn, ?_⟩) ?_
            · rw [named.2.1]
              exact go I2 .nil rz lv lz q3
            · rw [named.2.2]; rfl
        | cons e1 es =>
          obtain ⟨st1, st2⟩ := star_first (fun m e he es => chk_star he [] es _) h3
          refine PySem.W.callWith_KW (h₀ := X.base) I.ok.mod.kin hk named.1 (thn ((snd_As IH ok Z h3).run p pins s σ H _ I q) fun us s1 ⟨vs, H1, I1, r1, q1⟩ => ?_) ?_ st1
          · refine thn (pk.run p pins s1 σ H1 _ I1 q1) fun ws s2 ⟨zs, H2, I2, rz, lv, lz, q3⟩ => ⟨I2.kIn, ?_⟩
            rw [named.2.1]
            exact go I2 r1 rz lv lz q3
          · rw [named.2.2, st1]
            show ((false || (backTo p (starEach es X.env)).any (·.1)) || false) = false
            rw [st2 p]; rfl
    | _ => cases h
  | _ => cases h
end
end GM

set_option maxRecDepth 100000
/-! GM: expressions keep what wpE says: displays, built-ins, methods, comprehensions -/
namespace GM
open PySem PySem.Spec PyProof.Rows L2
section
variable {Γ : Nat → Option FS} {CT : CTab} {X : Cx} {W : WX} {cc : CC} {Z : Zt} {n : Nat}
theorem snd_ife (IHs : ∀ k, k ≤ n → SoundE Γ CT k) (ok : Ok Γ CT X W cc) (Z : Zt) {c a b : M} {e : Expr} (h : chkE (n + 1) cc (.ife c a b) e = true) : PE X e (tE Γ CT X.K W Z (n + 1) (.ife c a b)) := by
  have IH := IHs n (Nat.le_refl n)
  cases e with
  | IfExp t x y p =>
    obtain ⟨h, h3⟩ := and_split (show (chkT (chkE n cc) n c t && chkE n cc a x && chkE n cc b y) = true from h)
    obtain ⟨h1, h2⟩ := and_split h
    refine PE.imp (pe_ifExp (snd_T IHs ok Z h1) (IH cc X W ok Z a x h2) (IH cc X W ok Z b y h3)) fun σ H Q ⟨F, env, S, q⟩ => ?_
    rw [wpE_succ] at q
    unfold wpE1 at q
    dsimp only at q
    refine ⟨F, env, S, wpT_mono (wpE_mono Γ n) q (fun _ _ z => z) fun t env1 q1 F1 H1 s1 S1 => ?_⟩
    obtain ⟨qt, qf⟩ := brP_get q1
    cases t with
    | true => exact ⟨F1, env1, S1, wpE_mono Γ n _ _ _ _ _ _ (qt rfl) (PX.lift s1) fun u2 env2 q2 v2 F3 H3 s3 S3 r3 => q2 v2 F3 H3 (s1.trans s3) S3 r3⟩
    | false => exact ⟨F1, env1, S1, wpE_mono Γ n _ _ _ _ _ _ (qf rfl) (PX.lift s1) fun u2 env2 q2 v2 F3 H3 s3 S3 r3 => q2 v2 F3 H3 (s1.trans s3) S3 r3⟩
  | _ => cases h
variable (IH : SoundE Γ CT n)
include IH
theorem snd_tup (ok : Ok Γ CT X W cc) (Z : Zt) {ms : List M} {e : Expr} (h : chkE (n + 1) cc (.tup ms) e = true) : PE X e (tE Γ CT X.K W Z (n + 1) (.tup ms)) := by
  cases e with
  | Tuple es k p =>
    obtain ⟨h1, h2⟩ := and_split (show (chkL (chkE n cc) ms es && decide (es.length ≤ LIM)) = true from h)
    have hl := chkL_len h1
    have hz := of_decide_eq_true h2
    refine PE.imp (pe_tup (snd_Vs IH ok Z h1)) fun σ H Q ⟨F, env, S, q⟩ => ?_
    rw [wpE_succ] at q
    unfold wpE1 at q
    dsimp only at q
    refine ⟨F, env, S, wpVs_mono (wpE_mono Γ n) (wpVs_len (wpE_mono Γ n) q) (fun _ _ z => z) fun ds env1 ⟨el, q1⟩ vs F1 H1 s1 S1 r1 => ⟨plus_len (r1.length.trans (el.trans hl)) hz, fun p hp => ?_⟩⟩
    exact q1.done s1 S1 _ _ _ (Grow.froz S1.le hp) (.tup upd_same (r1.mono (same_upd (S1.noneF hp))))
  | _ => cases h
theorem snd_lst (ok : Ok Γ CT X W cc) (Z : Zt) {ms : List M} {e : Expr} (h : chkE (n + 1) cc (.lst ms) e = true) : PE X e (tE Γ CT X.K W Z (n + 1) (.lst ms)) := by
  cases e with
  | List es p =>
    obtain ⟨h1, h2⟩ := and_split (show (chkL (chkE n cc) ms es && decide (es.length ≤ LIM)) = true from h)
    have hl := chkL_len h1
    have hz := of_decide_eq_true h2
    refine PE.imp (pe_lst (snd_Vs IH ok Z h1)) fun σ H Q ⟨F, env, S, q⟩ => ?_
    rw [wpE_succ] at q
    unfold wpE1 at q
    dsimp only at q
    refine ⟨F, env, S, wpVs_mono (wpE_mono Γ n) (wpVs_len (wpE_mono Γ n) q) (fun _ _ z => z) fun ds env1 ⟨el, q1⟩ vs F1 H1 s1 S1 r1 => ⟨plus_len (r1.length.trans (el.trans hl)) hz, fun p hp => ?_⟩⟩
    exact q1.done s1 S1 _ _ _ (Grow.own S1.le hp) ⟨p, _, rfl, hp, upd_same, S1.noneF hp, r1⟩
  | _ => cases h
theorem snd_idx (ok : Ok Γ CT X W cc) (Z : Zt) {a i : M} {e : Expr} (h : chkE (n + 1) cc (.idx a i) e = true) : PE X e (tE Γ CT X.K W Z (n + 1) (.idx a i)) := by
  cases e with
  | Subscript x y p =>
    have hy : (∀ l u s q, y ≠ .Slice l u s q) ∧ (chkE n cc a x && chkE n cc i y) = true := by
      cases y <;> first | exact ⟨fun _ _ _ _ z => (by cases z), h⟩ | cases h
    obtain ⟨h1, h2⟩ := and_split hy.2
    refine PE.imp (pe_ix ix_D (snd_R IH ok Z h1) (snd_R IH ok Z h2) (plain_ix hy.1)) fun σ H Q ⟨F, env, S, q⟩ => ?_
    rw [wpE_succ] at q
    unfold wpE1 at q
    dsimp only at q
    refine two_R IH (op := .add) Z S q fun oa ob env2 x y F2 H2 q2 s2 S2 r1 r2 => ?_
    obtain ⟨dx, ex, q2⟩ := optP_get q2
    obtain ⟨dy, ey, q2⟩ := optP_get q2
    obtain ⟨r, er, q2⟩ := optP_get q2
    exact ⟨F2, dx, dy, r, S2.le, r1.rd S2 same_refl ex, r2.rd S2 same_refl ey, er, fun v rv => PV.same q2 s2 S2 rv⟩
  | _ => cases h
/-- a part of a slice -/
theorem snd_P (ok : Ok Γ CT X W cc) (Z : Zt) {o : Option M} {oe : Option Expr} (h : chkO (chkE n cc) o oe = true) :
    L2.PO X oe (fun σ H Q => ∃ F env, SR X.K Z F H σ env ∧ wpE.wpP (wpE Γ n) o env (PX CT X.K W Z σ F) fun i env' => ∀ F' H', Same F F' → SR X.K Z F' H' σ env' → Q i H') := by
  cases o with
  | none =>
    cases oe with
    | none => exact ⟨fun pins s σ H Q I ⟨F, env, S, q⟩ => po_none.run pins s σ H Q I (q F H same_refl S)⟩
    | some e => cases h
  | some m =>
    cases oe with
    | none => cases h
    | some e =>
      refine ⟨fun pins s σ H Q I ⟨F, env, S, q⟩ => (po_some (snd_R IH ok Z (m := m) h)).run pins s σ H Q I ⟨F, env, S, ?_⟩⟩
      unfold wpE.wpP at q
      dsimp only at q
      refine wpR_mono (wpE_mono Γ n) q (fun _ _ z => z) fun ob env1 q1 v F1 H1 s1 S1 r1 => ?_
      obtain ⟨d, e1, q1⟩ := optP_get q1
      obtain ⟨i, e2, q2⟩ := optP_get q1
      have rr := r1.rd S1 same_refl e1
      have ed : d = .int i := by cases d <;> first | (cases e2; rfl) | cases e2
      subst ed
      exact ⟨i, rr.int, q2 F1 H1 s1 S1⟩
theorem snd_slc (ok : Ok Γ CT X W cc) (Z : Zt) {a : M} {lo hi : Option M} {e : Expr} (h : chkE (n + 1) cc (.slc a lo hi) e = true) : PE X e (tE Γ CT X.K W Z (n + 1) (.slc a lo hi)) := by
  cases e with
  | Subscript x y p =>
    cases y with
    | Slice l u s q =>
      cases s with
      | some s => cases h
      | none =>
        obtain ⟨h, h3⟩ := and_split (show (chkE n cc a x && chkO (chkE n cc) lo l && chkO (chkE n cc) hi u) = true from h)
        obtain ⟨h1, h2⟩ := and_split h
        refine PE.imp (pe_slice (sl_D.or sl_S) (snd_R IH ok Z h1) (snd_P IH ok Z h2) (snd_P IH ok Z h3)) fun σ H Q ⟨F, env, S, q⟩ => ?_
        rw [wpE_succ] at q
        unfold wpE1 at q
        dsimp only at q
        have plain : wpE.wpSl (wpE Γ n) a lo hi env (PX CT X.K W Z σ F) (PV X.K Z σ F Q) → tSl (fun x lo hi H Q => rSlc x lo hi H Q ∨ rSlcS X.K x lo hi H Q) (tR Γ CT X.K W Z n a)
            (fun σ H Q => ∃ F env, SR X.K Z F H σ env ∧ wpE.wpP (wpE Γ n) lo env (PX CT X.K W Z σ F) fun i env' => ∀ F' H', Same F F' → SR X.K Z F' H' σ env' → Q i H')
            (fun σ H Q => ∃ F env, SR X.K Z F H σ env ∧ wpE.wpP (wpE Γ n) hi env (PX CT X.K W Z σ F) fun i env' => ∀ F' H', Same F F' → SR X.K Z F' H' σ env' → Q i H') σ H Q := fun q => by
          unfold wpE.wpSl at q
          have M := wpE_mono Γ n
          refine ⟨F, env, S, wpR_mono M q (fun _ _ z => z) fun oa env1 q1 v F1 H1 s1 S1 r1 => ?_⟩
          refine ⟨F1, env1, S1, wpP_mono M q1 (PX.lift s1) fun li env2 q2 F2 H2 s2 S2 => ?_⟩
          refine ⟨F2, env2, S2, wpP_mono M q2 (PX.lift (s1.trans s2)) fun ui env3 q3 F3 H3 s3 S3 => .inl ?_⟩
          obtain ⟨d, e1, q3⟩ := optP_get q3
          obtain ⟨r, e2, q3⟩ := optP_get q3
          exact ⟨F3, d, r, S3.le, r1.rd S3 (s2.trans s3) e1, e2, q3.done ((s1.trans s2).trans s3) S3⟩
        cases a with
        | var i =>
          dsimp only at q
          cases g : get env i with
          | none => rw [g] at q; exact plain q
          | some w =>
            rw [g] at q
            cases w with
            | s ns =>
              dsimp only at q
              match lo, hi, h2, h3, q with
              | none, some (.con (.int k)), h2, h3, q =>
                obtain ⟨v, e1, b, rfl, r2, r3⟩ := S.slot i _ g
                refine ⟨F, env, S, ?_⟩
                unfold wpR
                refine optP_of g fun v F1 H1 s1 S1 r1 => ?_
                have r1 : σ[i]? = some (some v) := r1
                rw [e1] at r1
                cases r1
                refine ⟨F1, env, S1, ?_⟩
                unfold wpE.wpP
                intro F2 H2 s2 S2
                refine ⟨F2, env, S2, ?_⟩
                have tail : ∀ (Q' : Option Int → Env → Prop), Q' (some k) env → wpR (wpE Γ n) (.con (.int k)) env (PX CT X.K W Z σ F2) fun ob env1 => optP (rdv env1 ob) fun d => optP (intD d) fun i => Q' (some i) env1 := fun Q' z => by
                  cases n with
                  | zero => cases h1
                  | succ j => exact optP_of rfl (optP_of rfl (optP_of rfl z))
                refine tail (fun i env' => ∀ F' H', Same F2 F' → SR X.K Z F' H' σ env' → rSlc (.ref b) none i H' Q ∨ rSlcS X.K (.ref b) none i H' Q) ?_
                intro F3 H3 s3 S3
                exact .inr ⟨F3, b, ns, S3.le, rfl, Same.seq S3.keep r2, q.done ((s1.trans s2).trans s3) S3⟩
              | none, none, _, _, q => exact q.elim
              | some _, none, _, _, q => exact False.elim q
              | some _, some _, _, _, q => exact False.elim q
              | none, some (.con .none), _, _, q => exact q.elim
              | none, some (.con (.bool _)), _, _, q => exact q.elim
              | none, some (.con (.str _)), _, _, q => exact q.elim
              | none, some (.con (.list _)), _, _, q => exact q.elim
              | none, some (.con (.tuple _)), _, _, q => exact q.elim
              | none, some (.con (.dict _)), _, _, q => exact q.elim
              | none, some (.var _), _, _, q => exact q.elim
              | none, some (.refv _), _, _, q => exact q.elim
              | none, some (.bin _ _ _), _, _, q => exact q.elim
              | none, some (.neg _), _, _, q => exact q.elim
              | none, some (.cmp _ _ _), _, _, q => exact q.elim
              | none, some (.chain ..), _, _, q => exact q.elim
              | none, some (.chain3 ..), _, _, q => exact q.elim
              | none, some (.and_ ..), _, _, q => exact q.elim
              | none, some (.or_ ..), _, _, q => exact q.elim
              | none, some (.notv ..), _, _, q => exact q.elim
              | none, some (.ife ..), _, _, q => exact q.elim
              | none, some (.tup ..), _, _, q => exact q.elim
              | none, some (.lst ..), _, _, q => exact q.elim
              | none, some (.idx ..), _, _, q => exact q.elim
              | none, some (.slc ..), _, _, q => exact q.elim
              | none, some (.rev ..), _, _, q => exact q.elim
              | none, some (.call ..), _, _, q => exact q.elim
              | none, some (.callk ..), _, _, q => exact q.elim
              | none, some (.bi ..), _, _, q => exact q.elim
              | none, some (.mth ..), _, _, q => exact q.elim
              | none, some (.mtd ..), _, _, q => exact q.elim
              | none, some (.comp ..), _, _, q => exact q.elim
              | none, some (.comp2 ..), _, _, q => exact q.elim
              | none, some (.att ..), _, _, q => exact q.elim
              | none, some (.irng ..), _, _, q => exact q.elim
              | none, some (.ienum ..), _, _, q => exact q.elim
              | none, some (.izip ..), _, _, q => exact q.elim
              | none, some (.irev ..), _, _, q => exact q.elim
            | v d => exact plain q
            | o xs => exact plain q
            | r xs => exact plain q
            | x c fs => exact plain q
        | _ => exact plain q
    | _ => cases h
  | _ => cases h
/-! built-in functions -/
theorem bi_read (Z : Zt) {b : BI} {as : List M} {σ : L2.St} {H : Hp} {Q : VK} (q : tE Γ CT X.K W Z (n + 1) (.bi b as) σ H Q) : tOs Γ CT X.K W Z n as σ H fun vs H1 => rBi b vs H1 Q := by
  obtain ⟨F, env, S, q⟩ := q
  rw [wpE_succ] at q
  unfold wpE1 at q
  dsimp only at q
  refine ⟨F, env, S, wpOs_mono (wpE_mono Γ n) (fx := True) q (fun _ _ z => z) fun os env1 q1 vs F1 H1 s1 S1 r1 => ?_⟩
  obtain ⟨ds, e1, q1⟩ := optP_get q1
  obtain ⟨r, e2, q1⟩ := optP_get q1
  obtain ⟨c, q1⟩ := ckP_get q1
  exact ⟨F1, ds, r, S1.le, r1.rds S1 same_refl e1, e2, c, q1.done s1 S1⟩
omit IH in
theorem rg_map (a : Int) (n : Nat) : rngI a n = ((List.range n).map fun (k : Nat) => a + (k : Int)).map .int := by
  unfold rngI; rw [List.map_map]; rfl
omit IH in
theorem rgV_map (a b : Int) : rgV a b = ((List.range (b - a).toNat).map fun (k : Nat) => a + (k : Int)).map V.int := by
  unfold rgV; rw [List.map_map]; rfl
omit IH in
theorem reps_rg {F : Hp} (a b : Int) : Reps F (rgV a b) (rngI a (b - a).toNat) := by
  rw [rg_map, rgV_map]; exact .of_ints _
theorem snd_sset (ok : Ok Γ CT X W cc) (Z : Zt) {as : List M} {e : Expr} (h : chkE (n + 1) cc (.bi .sset as) e = true) : PE X e (tE Γ CT X.K W Z (n + 1) (.bi .sset as)) := by
  match e, h with
  | .Call (.Name x xp) [.Call (.Name y yp) [z] [] p2] [] p, h =>
    obtain ⟨h, h5⟩ := and_split (show (decide (x = "sorted") && decide (y = "set") && gloB cc x && gloB cc y && chkL (chkE n cc) as [z]) = true from h)
    obtain ⟨h, h4⟩ := and_split h
    obtain ⟨h, h3⟩ := and_split h
    obtain ⟨h1, h2⟩ := and_split h
    have ex := of_decide_eq_true h1
    have ey := of_decide_eq_true h2
    subst ex ey
    obtain ⟨gl, gd⟩ := ok.gl h3
    obtain ⟨gl2, gd2⟩ := ok.gl h4
    match as, h5 with
    | [], h5 => cases h5
    | _ :: _ :: _, h5 => obtain ⟨_, h5⟩ := and_split h5; cases h5
    | [a], h5 =>
      obtain ⟨h5, _⟩ := and_split h5
      refine PE.imp (pe_sset ok.calm gl (ok.blt _ (by decide)) gl2 (ok.blt _ (by decide)) (snd_R IH ok Z h5) (chk_star h5 [] [] _)) fun σ H Q q => ?_
      obtain ⟨F, env, S, q⟩ := q
      rw [wpE_succ] at q
      unfold wpE1 at q
      dsimp only at q
      rw [wpOs_cons] at q
      refine ⟨F, env, S, wpR_mono (wpE_mono Γ n) q (fun _ _ z => z) fun o env1 q1 v F1 H1 s1 S1 r1 => ?_⟩
      obtain ⟨ds, e1, q1⟩ := optP_get q1
      obtain ⟨r, e2, q1⟩ := optP_get q1
      obtain ⟨c, q2⟩ := ckP_get q1
      have qd := q2.done s1 S1
      have rds : Rds F1 H1 [v] ds := ROs.rds S1 same_refl (.cons r1 .nil) e1
      have hd : ∃ ys, ds = [.list ys] := by
        match ds, e2, c with
        | [], e2, _ => cases e2
        | [d], e2, c =>
          cases d with
          | list ys => exact ⟨ys, rfl⟩
          | tuple ys => exact (show False from c).elim
          | _ => simp only [biD, seqD] at e2; cases e2
        | d :: _ :: _, e2, _ => cases d <;> cases e2
      obtain ⟨ys, rfl⟩ := hd
      obtain ⟨x, ex, hx⟩ := rds.one
      cases ex
      obtain ⟨l, vs, rfl, hl, ra⟩ := hx.lst S1.le
      simp only [biD, seqD] at e2
      cases g : intsD ys with
      | none => rw [g] at e2; cases e2
      | some ns =>
        rw [g] at e2; cases e2
        have := ra.ints g
        subst this
        exact ⟨l, ns, rfl, SqL.of hl, by rw [intsD_length g]; exact c, fun p hp => qd _ _ _ (Grow.own S1.le hp) ⟨p, _, rfl, hp, upd_same, noneF S1.le hp, .of_ints _⟩⟩
theorem snd_rngT (ok : Ok Γ CT X W cc) (Z : Zt) {as : List M} {e : Expr} (h : chkE (n + 1) cc (.bi .rngT as) e = true) : PE X e (tE Γ CT X.K W Z (n + 1) (.bi .rngT as)) := by
  match e, h with
  | .Call (.Name x xp) [.Call (.Name y yp) es [] p2] [] p, h =>
    obtain ⟨h, h5⟩ := and_split (show (decide (x = "tuple") && decide (y = "range") && gloB cc x && gloB cc y && rngA (chkE n cc) as es) = true from h)
    obtain ⟨h, h4⟩ := and_split h
    obtain ⟨h, h3⟩ := and_split h
    obtain ⟨h1, h2⟩ := and_split h
    have ex := of_decide_eq_true h1
    have ey := of_decide_eq_true h2
    subst ex ey
    obtain ⟨gl, gd⟩ := ok.gl h3
    obtain ⟨gl2, gd2⟩ := ok.gl h4
    match as, es, h5 with
    | [a], [z], h5 =>
      refine PE.imp (pe_tupRg ok.calm gl (ok.blt _ (by decide)) (prg_1 gl2 (ok.blt _ (by decide)) (snd_R IH ok Z h5) (chk_star h5 [] [] _)) rfl) fun σ H Q q => ?_
      obtain ⟨F, env, S, q⟩ := q
      rw [wpE_succ] at q
      unfold wpE1 at q
      dsimp only at q
      rw [wpOs_cons] at q
      refine ⟨F, env, S, wpR_mono (wpE_mono Γ n) q (fun _ _ z => z) fun o env1 q1 v F1 H1 s1 S1 r1 => ?_⟩
      obtain ⟨ds, e1, q1⟩ := optP_get q1
      obtain ⟨r, e2, q1⟩ := optP_get q1
      obtain ⟨c, q2⟩ := ckP_get q1
      have qd := q2.done s1 S1
      have rds : Rds F1 H1 [v] ds := ROs.rds S1 same_refl (.cons r1 .nil) e1
      have hd : ∃ k, ds = [.int k] := by
        match ds, e2 with
        | [], e2 => cases e2
        | [d], e2 => cases d <;> first | exact ⟨_, rfl⟩ | cases e2
        | [_, _], _ => cases rds with | cons _ t => cases t
        | _ :: _ :: _ :: _, _ => cases rds with | cons _ t => cases t
      obtain ⟨k, rfl⟩ := hd
      obtain ⟨x, ex, hx⟩ := rds.one
      cases ex
      cases hx.int
      cases e2
      have c : 0 ≤ k ∧ k ≤ LIM := c
      refine ⟨k, rfl, .of_le (by decide) (by rw [limLine, sizeLine_eq] at c; omega) (by decide) c.1, fun p hp => ?_⟩
      have ek : k.toNat = (k - 0).toNat := by rw [Int.sub_zero]
      rw [ek] at qd
      exact qd _ _ _ (Grow.froz S1.le hp) (.tup upd_same ((reps_rg _ _).mono (same_upd (noneF S1.le hp))))
    | [a, b], [z, u], h5 =>
      obtain ⟨h5, h6⟩ := and_split h5
      refine PE.imp (pe_tupRg ok.calm gl (ok.blt _ (by decide)) (prg_2 gl2 (ok.blt _ (by decide)) (snd_R IH ok Z h5) (snd_R IH ok Z h6) (chk_star h5 [] [u] _) (chk_star h6 [] [] _) (by rw [chk_star h6 [] [] _]; rfl)) rfl) fun σ H Q q => ?_
      obtain ⟨F, env, S, q⟩ := q
      rw [wpE_succ] at q
      unfold wpE1 at q
      dsimp only at q
      rw [wpOs_cons] at q
      refine ⟨F, env, S, wpR_mono (wpE_mono Γ n) q (fun _ _ z => z) fun o env1 q1 v F1 H1 s1 S1 r1 => ?_⟩
      rw [wpOs_cons] at q1
      refine ⟨F1, env1, S1, wpR_mono (wpE_mono Γ n) q1 (PX.lift s1) fun o2 env2 q1 v2 F2 H2 s2 S2 r2 => ?_⟩
      obtain ⟨ds, e1, q1⟩ := optP_get q1
      obtain ⟨r, e2, q1⟩ := optP_get q1
      obtain ⟨c, q2⟩ := ckP_get q1
      have qd := q2.done (s1.trans s2) S2
      have rds : Rds F2 H2 [v, v2] ds := ROs.rds S2 same_refl (.cons (r1.mono s2) (.cons r2 .nil)) e1
      have hd : ∃ i j, ds = [.int i, .int j] := by
        match ds, e2 with
        | [], e2 => cases e2
        | [_], _ => cases rds with | cons _ t => cases t
        | [d, d2], e2 => cases d <;> cases d2 <;> first | exact ⟨_, _, rfl⟩ | cases e2
        | _ :: _ :: _ :: _, _ => cases rds with | cons _ t => cases t with | cons _ t => cases t
      obtain ⟨i, j, rfl⟩ := hd
      obtain ⟨x, y, ex, hx, hy⟩ := rds.two
      cases ex
      cases hx.int
      cases hy.int
      cases e2
      have c : 0 ≤ i ∧ i ≤ LIM ∧ 0 ≤ j ∧ j ≤ LIM := c
      refine ⟨i, j, rfl, rfl, .of_le c.1 (by rw [limLine, sizeLine_eq] at c; omega) (by rw [limLine, sizeLine_eq] at c; omega) c.2.2.1, fun p hp => ?_⟩
      exact qd _ _ _ (Grow.froz S2.le hp) (.tup upd_same ((reps_rg _ _).mono (same_upd (noneF S2.le hp))))
theorem snd_rngL (ok : Ok Γ CT X W cc) (Z : Zt) {as : List M} {e : Expr} (h : chkE (n + 1) cc (.bi .rngL as) e = true) : PE X e (tE Γ CT X.K W Z (n + 1) (.bi .rngL as)) := by
  match e, h with
  | .Call (.Name x xp) [.Call (.Name y yp) es [] p2] [] p, h =>
    obtain ⟨h, h5⟩ := and_split (show (decide (x = "list") && decide (y = "range") && gloB cc x && gloB cc y && rngA (chkE n cc) as es) = true from h)
    obtain ⟨h, h4⟩ := and_split h
    obtain ⟨h, h3⟩ := and_split h
    obtain ⟨h1, h2⟩ := and_split h
    have ex := of_decide_eq_true h1
    have ey := of_decide_eq_true h2
    subst ex ey
    obtain ⟨gl, gd⟩ := ok.gl h3
    obtain ⟨gl2, gd2⟩ := ok.gl h4
    match as, es, h5 with
    | [a], [z], h5 =>
      refine PE.imp (pe_listRg ok.calm gl (ok.blt _ (by decide)) (prg_1 gl2 (ok.blt _ (by decide)) (snd_R IH ok Z h5) (chk_star h5 [] [] _)) rfl) fun σ H Q q => ?_
      obtain ⟨F, env, S, q⟩ := q
      rw [wpE_succ] at q
      unfold wpE1 at q
      dsimp only at q
      rw [wpOs_cons] at q
      refine ⟨F, env, S, wpR_mono (wpE_mono Γ n) q (fun _ _ z => z) fun o env1 q1 v F1 H1 s1 S1 r1 => ?_⟩
      obtain ⟨ds, e1, q1⟩ := optP_get q1
      obtain ⟨r, e2, q1⟩ := optP_get q1
      obtain ⟨c, q2⟩ := ckP_get q1
      have qd := q2.done s1 S1
      have rds : Rds F1 H1 [v] ds := ROs.rds S1 same_refl (.cons r1 .nil) e1
      have hd : ∃ k, ds = [.int k] := by
        match ds, e2 with
        | [], e2 => cases e2
        | [d], e2 => cases d <;> first | exact ⟨_, rfl⟩ | cases e2
        | [_, _], _ => cases rds with | cons _ t => cases t
        | _ :: _ :: _ :: _, _ => cases rds with | cons _ t => cases t
      obtain ⟨k, rfl⟩ := hd
      obtain ⟨x, ex, hx⟩ := rds.one
      cases ex
      cases hx.int
      cases e2
      have c : 0 ≤ k ∧ k ≤ LIM := c
      refine ⟨k, rfl, .of_le (by decide) (by rw [limLine, sizeLine_eq] at c; omega) (by decide) c.1, fun p hp => ?_⟩
      have ek : k.toNat = (k - 0).toNat := by rw [Int.sub_zero]
      rw [ek] at qd
      exact qd _ _ _ (Grow.own S1.le hp) ⟨p, _, rfl, hp, upd_same, noneF S1.le hp, reps_rg _ _⟩
    | [a, b], [z, u], h5 =>
      obtain ⟨h5, h6⟩ := and_split h5
      refine PE.imp (pe_listRg ok.calm gl (ok.blt _ (by decide)) (prg_2 gl2 (ok.blt _ (by decide)) (snd_R IH ok Z h5) (snd_R IH ok Z h6) (chk_star h5 [] [u] _) (chk_star h6 [] [] _) (by rw [chk_star h6 [] [] _]; rfl)) rfl) fun σ H Q q => ?_
      obtain ⟨F, env, S, q⟩ := q
      rw [wpE_succ] at q
      unfold wpE1 at q
      dsimp only at q
      rw [wpOs_cons] at q
      refine ⟨F, env, S, wpR_mono (wpE_mono Γ n) q (fun _ _ z => z) fun o env1 q1 v F1 H1 s1 S1 r1 => ?_⟩
      rw [wpOs_cons] at q1
      refine ⟨F1, env1, S1, wpR_mono (wpE_mono Γ n) q1 (PX.lift s1) fun o2 env2 q1 v2 F2 H2 s2 S2 r2 => ?_⟩
      obtain ⟨ds, e1, q1⟩ := optP_get q1
      obtain ⟨r, e2, q1⟩ := optP_get q1
      obtain ⟨c, q2⟩ := ckP_get q1
      have qd := q2.done (s1.trans s2) S2
      have rds : Rds F2 H2 [v, v2] ds := ROs.rds S2 same_refl (.cons (r1.mono s2) (.cons r2 .nil)) e1
      have hd : ∃ i j, ds = [.int i, .int j] := by
        match ds, e2 with
        | [], e2 => cases e2
        | [_], _ => cases rds with | cons _ t => cases t
        | [d, d2], e2 => cases d <;> cases d2 <;> first | exact ⟨_, _, rfl⟩ | cases e2
        | _ :: _ :: _ :: _, _ => cases rds with | cons _ t => cases t with | cons _ t => cases t
      obtain ⟨i, j, rfl⟩ := hd
      obtain ⟨x, y, ex, hx, hy⟩ := rds.two
      cases ex
      cases hx.int
      cases hy.int
      cases e2
      have c : 0 ≤ i ∧ i ≤ LIM ∧ 0 ≤ j ∧ j ≤ LIM := c
      refine ⟨i, j, rfl, rfl, .of_le c.1 (by rw [limLine, sizeLine_eq] at c; omega) (by rw [limLine, sizeLine_eq] at c; omega) c.2.2.1, fun p hp => ?_⟩
      exact qd _ _ _ (Grow.own S2.le hp) ⟨p, _, rfl, hp, upd_same, noneF S2.le hp, reps_rg _ _⟩
theorem snd_bi (ok : Ok Γ CT X W cc) (Z : Zt) {b : BI} {as : List M} {e : Expr} (hb : ∀ ts, b ≠ .isi ts) (hs : b ≠ .sset ∧ b ≠ .rngT ∧ b ≠ .rngL) (h : chkE (n + 1) cc (.bi b as) e = true) : PE X e (tE Γ CT X.K W Z (n + 1) (.bi b as)) := by
  cases e with
  | Call g es kws p =>
    cases g with
    | Name x xp =>
      cases kws with
      | cons k ks =>
        cases b <;> first | exact absurd rfl (hb _) | exact absurd rfl hs.1 | exact absurd rfl hs.2.1 | exact absurd rfl hs.2.2 | cases h
      | nil =>
        have h' : (decide (x = biNm b) && biOk b && mathOk cc b && gloB cc x && chkL (chkE n cc) as es && !es.isEmpty) = true := by
          cases b <;> first | exact absurd rfl (hb _) | exact absurd rfl hs.1 | exact absurd rfl hs.2.1 | exact absurd rfl hs.2.2 | exact h
        obtain ⟨h, h6⟩ := and_split h'
        obtain ⟨h, h5⟩ := and_split h
        obtain ⟨h, h4⟩ := and_split h
        obtain ⟨h, h3⟩ := and_split h
        obtain ⟨h1, h2⟩ := and_split h
        have ex := of_decide_eq_true h1
        subst ex
        cases es with
        | nil => cases h6
        | cons e1 es =>
          obtain ⟨gl, gd⟩ := ok.gl h4
          have pa := snd_Os IH ok Z h5
          have st : starEach (e1 :: es) X.env = (false, eval e1 X.env) :: starEach es X.env ∧ ∀ pos, (backTo pos (starEach es X.env)).any (·.1) = false := by
            cases as with
            | nil => cases h5
            | cons m ms =>
              obtain ⟨k1, k2⟩ := and_split h5
              exact ⟨chk_star k1 [] es _, fun pos => noStar (fun m e he es => chk_star he [] es _) k2⟩
          have cb := call_bi (X := X) b h2 ok.calm ok.un
          refine PE.imp (t := tCB (rBi b) (tOs Γ CT X.K W Z n as)) ?_ fun σ H Q q => bi_read IH Z q
          have nn : ∀ {y : Str}, biNm b = y → y ≠ "__name__" → biNm b ≠ "__name__" := fun e z => by rw [e]; exact z
          cases b with
          | len => exact pe_callB cb gl (ok.blt _ (by decide)) (by decide +kernel) pa (by decide) gd st.1 (st.2 _)
          | abs => exact pe_callB cb gl (ok.blt _ (by decide)) (by decide +kernel) pa (by decide) gd st.1 (st.2 _)
          | sorted => exact pe_callB cb gl (ok.blt _ (by decide)) (by decide +kernel) pa (by decide) gd st.1 (st.2 _)
          | sum => exact pe_callB cb gl (ok.blt _ (by decide)) (by decide +kernel) pa (by decide) gd st.1 (st.2 _)
          | min1 => exact pe_callB cb gl (ok.blt _ (by decide)) (by decide +kernel) pa (by decide) gd st.1 (st.2 _)
          | max1 => exact pe_callB cb gl (ok.blt _ (by decide)) (by decide +kernel) pa (by decide) gd st.1 (st.2 _)
          | min2 => exact pe_callB cb gl (ok.blt _ (by decide)) (by decide +kernel) pa (by decide) gd st.1 (st.2 _)
          | max2 => exact pe_callB cb gl (ok.blt _ (by decide)) (by decide +kernel) pa (by decide) gd st.1 (st.2 _)
          | int1 => exact pe_callTy cb gl (ok.blt _ (by decide)) (by decide +kernel) pa (by decide) gd st.1 (st.2 _)
          | tup1 => exact pe_callTy cb gl (ok.blt _ (by decide)) (by decide +kernel) pa (by decide) gd st.1 (st.2 _)
          | lst1 => exact pe_callTy cb gl (ok.blt _ (by decide)) (by decide +kernel) pa (by decide) gd st.1 (st.2 _)
          | gcd => exact pe_callBfun cb gl (ok.gcd h3) pa gd st.1 (st.2 _)
          | isi ts => exact absurd rfl (hb _)
          | lcm => exact pe_callBfun cb gl (ok.lcm h3) pa gd st.1 (st.2 _)
          | str1 => exact pe_callTy cb gl (ok.blt _ (by decide)) (by decide +kernel) pa (by decide) gd st.1 (st.2 _)
          | sset => cases h2
          | rngT => cases h2
          | rngL => cases h2
    | _ => cases b <;> first | exact absurd rfl (hb _) | exact absurd rfl hs.1 | exact absurd rfl hs.2.1 | exact absurd rfl hs.2.2 | cases h
  | _ => cases b <;> first | exact absurd rfl (hb _) | exact absurd rfl hs.1 | exact absurd rfl hs.2.1 | exact absurd rfl hs.2.2 | cases h
end
end GM

set_option maxRecDepth 100000
/-! GM: expressions keep what wpE says: isinstance, methods, targets -/
namespace GM
open PySem PySem.Spec PyProof.Rows L2
def kdS : Nat → String
  | 0 => "int" | 1 => "bool" | 2 => "str" | 3 => "tuple" | 4 => "list" | _ => "NoneType"
theorem ty_rd {K : PySem.W.Frag} {F H : Hp} {v : V} {d : D} {k : Nat} (s : Same F H) (h : Rd F H v d) (e : tyOf d = some k) : TyX K H v (.type (kdS k)) ∧ k < 6 := by
  cases d with
  | none => cases h.non; cases e; exact ⟨.base .non, by decide⟩
  | bool b => cases h.bl; cases e; exact ⟨.base (.bl b), by decide⟩
  | int i => cases h.int; cases e; exact ⟨.base (.int i), by decide⟩
  | str x => cases h.str; cases e; exact ⟨.base (.str x), by decide⟩
  | list xs => obtain ⟨a, vs, rfl, ha, ra⟩ := h.lst s; cases e; exact ⟨.base (.lst ha), by decide⟩
  | tuple xs => obtain ⟨a, vs, rfl, ha, _, ra⟩ := h.tup s; cases e; exact ⟨.base (.tup ha), by decide⟩
  | dict kvs => cases e
def kdChk (k t : Nat) : Bool := decide (kitB (kdS k) (kdS t) = some (isiB k t))
theorem kd_all : (List.range 6).all (fun k => (List.range 5).all fun t => kdChk k t) = true := by decide +kernel
theorem kd_one {K : PySem.W.Frag} {k t : Nat} (hk : k < 6) (ht : t < 5) : PySem.W.kitOne K (.type (kdS k)) (.type (kdS t)) = some (isiB k t) := by
  have h := List.all_eq_true.mp kd_all k (List.mem_range.mpr hk)
  have h := List.all_eq_true.mp h t (List.mem_range.mpr ht)
  exact kit_ty (of_decide_eq_true h)
theorem kd_any {K : PySem.W.Frag} {k : Nat} (hk : k < 6) : ∀ ts : List Nat, (∀ t ∈ ts, t < 5) → PySem.W.kitAny K (.type (kdS k)) (ts.map fun t => Value.type (kdS t)) = some (ts.any (isiB k))
  | [], _ => kitAny_nil
  | t :: ts, h => by
    have h1 := kd_one (K := K) hk (h t List.mem_cons_self)
    have h2 := kd_any (K := K) hk ts fun u m => h u (List.mem_cons_of_mem _ m)
    refine kitAny_cons h1 (fun e => ?_) fun e => ?_
    · show _ = some ((isiB k t) || ts.any (isiB k))
      rw [e]; exact h2
    · show ((isiB k t) || ts.any (isiB k)) = true
      rw [e]; rfl
theorem boot_ty {t : Nat} (ht : t < 5) : bootBuiltins (tyNm t) = some (.type (kdS t)) ∧ tyNm t ∈ blts ∧ tyNm t ≠ "__name__" := by
  match t, ht with
  | 0, _ => decide +kernel
  | 1, _ => decide +kernel
  | 2, _ => decide +kernel
  | 3, _ => decide +kernel
  | 4, _ => decide +kernel
theorem tx_upd {K : PySem.W.Frag} {H : Hp} {v : V} {t : Value} {a : Addr} {o : HO} (h : TyX K H v t) (ha : H a = none) : TyX K (upd H a o) v t := by
  have k : ∀ {b : Addr} {x : HO}, H b = some x → upd H a o b = some x := fun {b x} e => by rw [upd_ne (ne_of_none e ha)]; exact e
  cases h with
  | base b =>
    refine .base ?_
    cases b with
    | non => exact .non
    | bl x => exact .bl x
    | int i => exact .int i
    | str x => exact .str x
    | flt x => exact .flt x
    | lst e => exact .lst (k e)
    | frz e => exact .frz (k e)
    | tup e => exact .tup (k e)
    | dK e => exact .dK (k e)
    | dT e => exact .dT (k e)
    | ins e h1 h2 h3 h4 h5 => exact .ins (k e) h1 h2 h3 h4 h5
  | byt b => exact .byt b
  | set e => exact .set (k e)
  | kList e c => exact .kList e c
  | kTuple e c => exact .kTuple e c
  | kDict e c => exact .kDict e c
  | fTuple e => exact .fTuple (k e)
  | fDict e => exact .fDict (k e)
section
variable {Γ : Nat → Option FS} {CT : CTab} {X : Cx} {W : WX} {cc : CC} {Z : Zt} {n : Nat}
theorem pe_ty (ok : Ok Γ CT X W cc) {t : Nat} {e : Expr} (h : tyE cc t e = true) : PE X e (tC (.ty (kdS t))) ∧ (∀ es, starEach (e :: es) X.env = (false, eval e X.env) :: starEach es X.env) ∧ t < 5 := by
  cases e with
  | Name x p =>
    obtain ⟨h, h3⟩ := and_split (show (decide (x = tyNm t) && gloB cc x && decide (t < 5)) = true from h)
    obtain ⟨h1, h2⟩ := and_split h
    have ex := of_decide_eq_true h1
    subst ex
    have ht := of_decide_eq_true h3
    obtain ⟨b1, b2, b3⟩ := boot_ty ht
    obtain ⟨g, gd⟩ := ok.gl h2
    exact ⟨pe_bltn g (ok.blt _ b2) b1 rfl b3 gd, fun _ => name_star, ht⟩
  | _ => cases h
theorem pa_tys (ok : Ok Γ CT X W cc) : ∀ {ts : List Nat} {es : List Expr}, tyEs cc ts es = true → PA X es (fun _ H Q => Q (ts.map fun t => V.ty (kdS t)) H) ∧ (∀ t ∈ ts, t < 5) ∧ ts.length = es.length
  | [], [], _ => ⟨PA.imp pa_nil fun σ H Q q => q, fun _ h => (by cases h), rfl⟩
  | t :: ts, e :: es, h => by
    obtain ⟨h1, h2⟩ := and_split h
    obtain ⟨p1, p2, p3⟩ := pe_ty ok h1
    obtain ⟨q1, q2, q3⟩ := pa_tys ok h2
    refine ⟨PA.imp (pa_cons p1 q1 (p2 es)) fun σ H Q q => q, fun u m => ?_, by simp [q3]⟩
    rcases List.mem_cons.mp m with e | m
    · rw [e]; exact p3
    · exact q2 u m
  | [], _ :: _, h => by cases h
  | _ :: _, [], h => by cases h
theorem cls_all : ∀ ts : List Nat, Paired ClsV (ts.map fun t => V.ty (kdS t)) (ts.map fun t => Value.type (kdS t))
  | [] => .nil
  | t :: ts => .cons (.ty _) (cls_all ts)
theorem snd_isi (IH : SoundE Γ CT n) (ok : Ok Γ CT X W cc) (Z : Zt) {ts : List Nat} {as : List M} {e : Expr} (h : chkE (n + 1) cc (.bi (.isi ts) as) e = true) : PE X e (tE Γ CT X.K W Z (n + 1) (.bi (.isi ts) as)) := by
  cases e with
  | Call g es kws p =>
    cases g with
    | Name x xp =>
      match es, kws, h with
      | [y, t], [], h =>
        obtain ⟨h, h4⟩ := and_split (show (decide (x = "isinstance") && gloB cc x && chkL (chkE n cc) as [y] && tyT cc ts t) = true from h)
        obtain ⟨h, h3⟩ := and_split h
        obtain ⟨h1, h2⟩ := and_split h
        have ex := of_decide_eq_true h1
        subst ex
        obtain ⟨gl, gd⟩ := ok.gl h2
        match as, h3 with
        | [m], h3 =>
          obtain ⟨h3, _⟩ := and_split h3
          have pm := snd_R IH ok Z h3
          have st1 := chk_star h3 [] [t] X.env
          have read : ∀ {σ : L2.St} {H : Hp} {Q : VK}, tE Γ CT X.K W Z (n + 1) (.bi (.isi ts) [m]) σ H Q → tR Γ CT X.K W Z n m σ H fun v H1 => ∃ k, TyX X.K H1 v (.type (kdS k)) ∧ k < 6 ∧ ∃ F1, Same F1 H1 ∧ ∀ H2 F2, Grow F1 H1 F2 H2 → Q (.bl (ts.any (isiB k))) H2 := by
            rintro σ H Q ⟨F, env, S, q⟩
            rw [wpE_succ] at q
            unfold wpE1 at q
            dsimp only [wpOs] at q
            refine ⟨F, env, S, wpR_mono (wpE_mono Γ n) q (fun _ _ z => z) fun o env1 q1 v F1 H1 s1 S1 r1 => ?_⟩
            obtain ⟨ds, e1, q2⟩ := optP_get q1
            obtain ⟨r, e2, q3⟩ := optP_get q2
            obtain ⟨_, q4⟩ := ckP_get q3
            simp only [rdvs] at e1
            cases e3 : rdv env1 o with
            | none => rw [e3] at e1; cases e1
            | some d =>
              rw [e3] at e1
              obtain rfl : [d] = ds := by cases e1; rfl
              simp only [biD] at e2
              cases e4 : tyOf d with
              | none => rw [e4] at e2; cases e2
              | some k =>
                rw [e4] at e2
                obtain rfl : U.v (.bool (ts.any (isiB k))) = r := by cases e2; rfl
                obtain ⟨t1, t2⟩ := ty_rd (K := X.K) S1.le (r1.rd S1 same_refl e3) e4
                exact ⟨k, t1, t2, F1, S1.le, fun H2 F2 g => q4.done s1 S1 _ _ _ g (.bl _)⟩
          by_cases ht : ∃ es k tp, t = .Tuple es k tp
          · obtain ⟨es, k, tp, rfl⟩ := ht
            obtain ⟨h4, h5⟩ := and_split (show (tyEs cc ts es && decide (es.length ≤ LIM)) = true from h4)
            obtain ⟨pt, pl, pn⟩ := pa_tys ok h4
            have pa := pa_cons pm (pa_cons (pe_tup (x1 := k) (pos := tp) pt) pa_nil rfl) st1
            refine PE.imp (pe_callB call_isiT gl (ok.blt _ (by decide)) (by decide +kernel) pa (by decide) gd st1 rfl) fun σ H Q q => ?_
            obtain ⟨F, env, S, q⟩ := read q
            refine ⟨F, env, S, wpR_mono (wpE_mono Γ n) q (fun _ _ z => z) fun o env1 q1 v F1 H1 s1 S1 r1 => ?_⟩
            obtain ⟨k, tx, hk, F2, s2, q2⟩ := q1 v F1 H1 s1 S1 r1
            refine ⟨by rw [List.length_map, pn]; exact plus_len rfl (of_decide_eq_true h5), fun a ha => ?_⟩
            exact ⟨v, a, _, _, _, _, rfl, upd_same, cls_all ts, tx_upd tx ha, kd_any hk ts pl, q2 _ _ (Grow.own s2 ha)⟩
          · have h4 : tyEs cc ts [t] = true := by
              cases t <;> first | exact h4 | exact absurd ⟨_, _, _, rfl⟩ ht
            match ts, h4 with
            | [c], h4 =>
              obtain ⟨h4, _⟩ := and_split h4
              obtain ⟨pt, st2, hc⟩ := pe_ty ok h4
              have pa := pa_cons pm (pa_cons pt pa_nil (st2 [])) st1
              refine PE.imp (pe_callB call_isi gl (ok.blt _ (by decide)) (by decide +kernel) pa (by decide) gd st1 (by rw [st2]; rfl)) fun σ H Q q => ?_
              obtain ⟨F, env, S, q⟩ := read q
              refine ⟨F, env, S, wpR_mono (wpE_mono Γ n) q (fun _ _ z => z) fun o env1 q1 v F1 H1 s1 S1 r1 => ?_⟩
              obtain ⟨k, tx, hk, F2, s2, q2⟩ := q1 v F1 H1 s1 S1 r1
              have q3 := q2 H1 F2 (Grow.refl s2)
              exact ⟨v, _, _, _, _, rfl, .ty _, tx, kd_one hk hc, by simpa using q3⟩
            | [], h4 => cases h4
            | _ :: _ :: _, h4 => obtain ⟨_, h4⟩ := and_split h4; cases h4
        | [], h3 => cases h3
        | _ :: _ :: _, h3 => obtain ⟨_, h3⟩ := and_split h3; cases h3
      | [], _, h => cases h
      | [_], _, h => cases h
      | _ :: _ :: _ :: _, _, h => cases h
      | [_, _], _ :: _, h => cases h
    | _ => cases h
  | _ => cases h
/-! a list's methods -/
theorem noStarAll {rec : M → Expr → Bool} {env : PySem.Env} {pos : Pos} (hs : ∀ m e, rec m e = true → ∀ es, starEach (e :: es) env = (false, eval e env) :: starEach es env) : ∀ {ms : List M} {es : List Expr}, chkL rec ms es = true → (backTo pos (starEach es env)).all (fun x => !x.1) = true
  | [], [], _ => rfl
  | m :: ms, e :: es, h => by
    obtain ⟨h1, h2⟩ := and_split h
    have ih := noStarAll (pos := pos) hs h2
    rw [hs m e h1]
    unfold backTo at ih ⊢
    rw [List.map_cons, List.all_cons, ih]
    rfl
  | [], _ :: _, h => by cases h
  | _ :: _, [], h => by cases h
theorem slot_mn (mn : MN) (h : mn ≠ .insert) : Slot "list" (mnNm mn) (mnId mn) ∧ typeOf (.builtin (mnId mn)) = pure (.type "method_descriptor") := by
  cases mn with
  | append => exact ⟨slot_list_append, type_list_append⟩
  | pop => exact ⟨PySem.F.slot_list_pop, PySem.F.type_list_pop⟩
  | popAt => exact ⟨PySem.F.slot_list_pop, PySem.F.type_list_pop⟩
  | extend => exact ⟨PySem.F.slot_list_extend, PySem.F.type_list_extend⟩
  | insert => exact absurd rfl h
  | reverse => exact ⟨PySem.F.slot_list_reverse, PySem.F.type_list_reverse⟩
/-- a method's reading, behind its receiver -/
theorem mth_read (Z : Zt) {mn : MN} {i : Nat} {as : List M} {σ : L2.St} {H : Hp} {Q : VK} (q : tE Γ CT X.K W Z (n + 1) (.mth mn i as) σ H Q) :
    ∃ x, σ[i]? = some (some x) ∧ tyV X.K "list" x H ∧ tVs Γ CT X.K W Z n as σ H fun xs H2 => rMth mn x xs H2 Q := by
  obtain ⟨F, env, S, q⟩ := q
  rw [wpE_succ] at q
  unfold wpE1 at q
  dsimp only at q
  obtain ⟨ys, e0, q1⟩ := optP_get q
  obtain ⟨a, vs, ha, hv, _, _⟩ := S.cell e0
  refine ⟨.ref a, ha, .inl ⟨rfl, _, SqL.of hv⟩, F, env, S, wpVs_mono (wpE_mono Γ n) q1 (fun _ _ z => z) fun ds env1 q2 zs F1 H1 s1 S1 r1 => ?_⟩
  obtain ⟨xs, e1, q3⟩ := optP_get q2
  obtain ⟨p, e2, q4⟩ := optP_get q3
  obtain ⟨c, q5⟩ := ckP_get q4
  obtain ⟨a', ws, ha', hv', rv, fa⟩ := S1.cell e1
  rw [ha] at ha'
  cases ha'
  exact ⟨F1, a, ws, xs, ds, p, S1.le, rfl, hv', fa, rv, r1, e2, c, fun v vs' rp rv' => q5 v F1 _ s1 (S1.change e1 ha rv') rp⟩
theorem snd_mth (IH : SoundE Γ CT n) (ok : Ok Γ CT X W cc) (Z : Zt) {mn : MN} {i : Nat} {as : List M} {e : Expr} (h : chkE (n + 1) cc (.mth mn i as) e = true) : PE X e (tE Γ CT X.K W Z (n + 1) (.mth mn i as)) := by
  cases e with
  | Call g es kws p =>
    cases g with
    | Attribute o nm ap =>
      cases o with
      | Name y yp =>
        cases kws with
        | cons k ks => cases h
        | nil =>
          obtain ⟨h, h7⟩ := and_split (show (decide (nm = mnNm mn) && nameB cc i y && chkL (chkE n cc) as es && (ap.endLine == p.line) && decide (es.length < 20) && decide (mn ≠ .insert) && mnAr mn es) = true from h)
          obtain ⟨h, h6⟩ := and_split h
          obtain ⟨h, h5⟩ := and_split h
          obtain ⟨h, h4⟩ := and_split h
          obtain ⟨h, h3⟩ := and_split h
          obtain ⟨h1, h2⟩ := and_split h
          have e1 := of_decide_eq_true h1
          subst e1
          obtain ⟨sl, ty⟩ := slot_mn mn (of_decide_eq_true h6)
          cases es with
          | nil =>
            refine PE.imp (pe_bm0 PySem.F.plainAttrs_list sl ty (mt_mth mn) (pe_name ok h2) rfl h4) fun σ H Q q => ?_
            obtain ⟨x, hx, ty, F, env, S, q⟩ := mth_read Z q
            cases as with
            | cons _ _ => cases h3
            | nil => exact ⟨x, hx, ty, q [] F H same_refl S .nil⟩
          | cons e es =>
            have st : starEach (e :: es) X.env = (false, eval e X.env) :: starEach es X.env ∧ (backTo p (starEach es X.env)).any (·.1) = false := by
              cases as with
              | nil => cases h3
              | cons m ms =>
                obtain ⟨k1, k2⟩ := and_split h3
                exact ⟨chk_star k1 [] es _, noStar (fun m e he es => chk_star he [] es _) k2⟩
            refine PE.imp (pe_bm PySem.F.plainAttrs_list sl ty (mt_mth mn) (pe_name ok h2) (snd_Vs IH ok Z h3) rfl ?_ h4 st.1 st.2) fun σ H Q q => ?_
            · rw [noStarAll (fun m e he es => chk_star he [] es _) h3]
              have hl := of_decide_eq_true h5
              show (true && true && decide _) = true
              simp only [List.length_nil, List.isEmpty_nil, if_true, Bool.true_and, decide_eq_true_eq]
              omega
            · obtain ⟨x, hx, ty, q⟩ := mth_read Z q
              exact ⟨x, hx, ty, q⟩
      | _ => cases h
    | _ => cases h
  | _ => cases h
/-! a list's place of a number -/
def rMtd : V → List V → Hp → VK → Prop := fun x xs H Q => ∃ F d ds j, Same F H ∧ Rd F H x d ∧ Reps F xs ds ∧ mtdD .index d ds = some (.v (.int j)) ∧ Q (.int j) H
theorem idxI_of {k : Int} : ∀ {ns : List Int} {n j : Nat}, idxI k ns n = some j → k ∈ ns ∧ j = n + ns.idxOf k
  | [], _, _, h => by cases h
  | m :: ns, n, j, h => by
    unfold idxI at h
    by_cases e : m = k
    · subst e; rw [if_pos rfl] at h; cases h
      exact ⟨List.mem_cons_self, by simp⟩
    · rw [if_neg e] at h
      obtain ⟨h1, h2⟩ := idxI_of h
      refine ⟨List.mem_cons_of_mem _ h1, ?_⟩
      have e2 : (m :: ns).idxOf k = ns.idxOf k + 1 := by
        rw [List.idxOf_cons]
        have : (m == k) = false := by simpa using e
        rw [this]; rfl
      rw [e2]; omega
theorem mt_mtd {X : Cx} : MtR X "list.index" rMtd := by
  intro pins s σ H x xs v us Q I rx rz h
  obtain ⟨F, d, ds, j, sF, hd, rs, e, q⟩ := h
  match d, ds, e with
  | .list ys, [.int k], e =>
    obtain ⟨a, vs, rfl, ha, ra⟩ := hd.lst sF
    simp only [mtdD] at e
    cases g : intsD ys with
    | none => rw [g] at e; cases e
    | some ns =>
      rw [g] at e
      simp only at e
      cases g2 : idxI k ns 0 with
      | none => rw [g2] at e; cases e
      | some j' =>
        rw [g2] at e; cases e
        obtain ⟨k1, k2⟩ := idxI_of g2
        have := ra.ints g
        subst this
        cases rs with
        | cons r1 r2 =>
          cases r1; cases r2
          cases rz with
          | cons z1 z2 =>
            cases z2
            obtain ⟨t, rfl⟩ := z1
            obtain ⟨its, rv, hl, hz⟩ := I.list (SqL.of ha)
            cases rx
            refine PySem.SeqAt.list_index_ints (prog := X.prog) (w := X.w) hl.isList rv.ints (by rw [List.length_map] at hz; exact hz) k1 ⟨.int j', H, I.tok _, ⟨s.toks, ?_⟩, q⟩
            rw [k2, Nat.zero_add]
  | .list _, [], e => cases e
  | .list _, _ :: _ :: _, e => simp [mtdD] at e
theorem mtd_read (Z : Zt) {md : MD} {i : Nat} {as : List M} {σ : L2.St} {H : Hp} {Q : VK} (q : tE Γ CT X.K W Z (n + 1) (.mtd md i as) σ H Q) :
    ∃ x, σ[i]? = some (some x) ∧ tyV X.K "list" x H ∧ tVs Γ CT X.K W Z n as σ H fun xs H2 => rMtd x xs H2 Q := by
  obtain ⟨F, env, S, q⟩ := q
  rw [wpE_succ] at q
  unfold wpE1 at q
  dsimp only at q
  obtain ⟨d, e0, q1⟩ := optP_get q
  obtain ⟨c, q1⟩ := ckP_get q1
  have hx : ∃ v, σ[i]? = some (some v) := by
    simp only [rdv] at e0
    cases g : get env i with
    | none => rw [g] at e0; cases e0
    | some u => obtain ⟨v, e, _⟩ := S.slot i u g; exact ⟨v, e⟩
  obtain ⟨v, hv⟩ := hx
  have r0 : RO F σ v (.var i) := hv
  refine ⟨v, hv, ?_, F, env, S, wpVs_mono (wpE_mono Γ n) q1 (fun _ _ z => z) fun ds env1 q2 zs F1 H1 s1 S1 r1 => ?_⟩
  · have rd := RO.rd S same_refl r0 e0
    match md, d, c with
    | .index, .list xs, _ =>
      obtain ⟨a, vs, rfl, ha, _⟩ := rd.lst S.le
      exact .inl ⟨rfl, _, SqL.of ha⟩
  · obtain ⟨d1, e1, q3⟩ := optP_get q2
    obtain ⟨r, e2, q4⟩ := optP_get q3
    have r1' : RO F1 σ v (.var i) := hv
    have rd := RO.rd S1 same_refl r1' e1
    match md, d1, ds, e2 with
    | .index, .list xs, [.int k], e2 =>
      have e2' := e2
      simp only [mtdD] at e2
      cases g : intsD xs with
      | none => rw [g] at e2; cases e2
      | some ns =>
        rw [g] at e2
        simp only at e2
        cases g2 : idxI k ns 0 with
        | none => rw [g2] at e2; cases e2
        | some j =>
          rw [g2] at e2; cases e2
          exact ⟨F1, _, _, j, S1.le, rd, r1, e2', q4 _ _ _ s1 S1 (.int _)⟩
theorem snd_mtd (IH : SoundE Γ CT n) (ok : Ok Γ CT X W cc) (Z : Zt) {md : MD} {i : Nat} {as : List M} {e : Expr} (h : chkE (n + 1) cc (.mtd md i as) e = true) : PE X e (tE Γ CT X.K W Z (n + 1) (.mtd md i as)) := by
  cases e with
  | Call g es kws p =>
    cases g with
    | Attribute o nm ap =>
      cases o with
      | Name y yp =>
        cases kws with
        | cons k ks => cases h
        | nil =>
          obtain ⟨h, h7⟩ := and_split (show (decide (nm = mdNm md) && nameB cc i y && chkL (chkE n cc) as es && (ap.endLine == p.line) && decide (es.length < 20) && !es.isEmpty) = true from h)
          obtain ⟨h, h5⟩ := and_split h
          obtain ⟨h, h4⟩ := and_split h
          obtain ⟨h, h3⟩ := and_split h
          obtain ⟨h1, h2⟩ := and_split h
          have e1 := of_decide_eq_true h1
          subst e1
          cases md
          cases es with
          | nil => cases h7
          | cons e es =>
            have st : starEach (e :: es) X.env = (false, eval e X.env) :: starEach es X.env ∧ (backTo p (starEach es X.env)).any (·.1) = false := by
              cases as with
              | nil => cases h3
              | cons m ms =>
                obtain ⟨k1, k2⟩ := and_split h3
                exact ⟨chk_star k1 [] es _, noStar (fun m e he es => chk_star he [] es _) k2⟩
            refine PE.imp (pe_bm PySem.F.plainAttrs_list PySem.F.slot_list_index PySem.F.type_list_index mt_mtd (pe_name ok h2) (snd_Vs IH ok Z h3) rfl ?_ h4 st.1 st.2) fun σ H Q q => ?_
            · rw [noStarAll (fun m e he es => chk_star he [] es _) h3]
              have hl := of_decide_eq_true h5
              show (true && true && decide _) = true
              simp only [List.length_nil, List.isEmpty_nil, if_true, Bool.true_and, decide_eq_true_eq]
              omega
            · obtain ⟨x, hx, ty, q⟩ := mtd_read Z q
              exact ⟨x, hx, ty, q⟩
      | _ => cases h
    | _ => cases h
  | _ => cases h
/-! targets -/
def Agree (L : List Nat) (σ σ' : L2.St) : Prop := σ'.length = σ.length ∧ ∀ i, i ∉ L → σ'[i]? = σ[i]?
theorem Agree.refl (L : List Nat) (σ : L2.St) : Agree L σ σ := ⟨rfl, fun _ _ => rfl⟩
theorem Agree.trans {L A B : List Nat} {σ σ1 σ2 : L2.St} (a : Agree A σ σ1) (b : Agree B σ1 σ2) (h1 : ∀ i ∈ A, i ∈ L) (h2 : ∀ i ∈ B, i ∈ L) : Agree L σ σ2 :=
  ⟨b.1.trans a.1, fun i hi => (b.2 i fun z => hi (h2 i z)).trans (a.2 i fun z => hi (h1 i z))⟩
theorem bindT_reach : ∀ {k : Nat} {t : T} {d : D} {env : Env} {Q : Env → Prop}, bindT k t d env Q → ∃ e, Q e
  | 0, _, _, _, _, h => h.elim
  | k + 1, .nm i, d, env, Q, h => ⟨_, (ckP_get h).2⟩
  | k + 1, .tp ts, d, env, Q, h => by
    have go : ∀ (ts : List T) (ds : List D) (env : Env) (Q : Env → Prop), bindT.go (bindT k) ts ds env Q → ∃ e, Q e := by
      intro ts
      induction ts with
      | nil => intro ds env Q h; cases ds with | nil => exact ⟨_, h⟩ | cons _ _ => exact h.elim
      | cons t ts ih => intro ds env Q h; cases ds with
        | nil => exact h.elim
        | cons d ds => obtain ⟨e, h⟩ := bindT_reach (k := k) h; exact ih _ _ _ h
    cases d with
    | tuple ds => exact go _ _ _ _ h
    | _ => exact h.elim
theorem go_len {k : Nat} : ∀ {ts : List T} {ds : List D} {env : Env} {Q : Env → Prop}, bindT.go (bindT k) ts ds env Q → ts.length = ds.length
  | [], [], _, _, _ => rfl
  | [], _ :: _, _, _, h => h.elim
  | _ :: _, [], _, _, h => h.elim
  | t :: ts, d :: ds, env, Q, h => by
    obtain ⟨e, h⟩ := bindT_reach (k := k) h
    simp [go_len h]
def gG (K : PySem.W.Frag) (Z : Zt) (k : Nat) (t : T) : TG := fun v σ H Q => ∃ F env d, SR K Z F H σ env ∧ Rep F v d ∧ bindT k t d env fun env' => ∀ σ', SR K Z F H σ' env' → Agree (slotsT k t) σ σ' → Q σ' H
def gGs (K : PySem.W.Frag) (Z : Zt) (k : Nat) (ts : List T) : TGs := fun vs σ H Q => ∃ F env ds, SR K Z F H σ env ∧ Reps F vs ds ∧ bindT.go (bindT k) ts ds env fun env' => ∀ σ', SR K Z F H σ' env' → Agree (ts.flatMap (slotsT k)) σ σ' → Q σ' H
theorem PG.imp {X : Cx} {e : Expr} {t t' : TG} (h : PG X e t) (f : ∀ v σ H Q, t' v σ H Q → t v σ H Q) : PG X e t' := ⟨fun pins s σ H v u Q I r q => h.run pins s σ H v u Q I r (f _ _ _ _ q)⟩
theorem PGs.imp {X : Cx} {e : List Expr} {t t' : TGs} (h : PGs X e t) (f : ∀ v σ H Q, t' v σ H Q → t v σ H Q) : PGs X e t' := ⟨fun pins s σ H v u Q I r q => h.run pins s σ H v u Q I r (f _ _ _ _ q)⟩
/-- each target stands plainly -/
theorem asg_each {k : Nat} {t : T} {e : Expr} (h : chkG cc k t e = true) (env : PySem.Env) (es : List Expr) : assignEach (e :: es) env = (false, assign e env) :: assignEach es env := by
  cases k with
  | zero => cases h
  | succ k => cases t <;> cases e <;> first | rfl | cases h
theorem asg_all {k : Nat} {env : PySem.Env} : ∀ {ts : List T} {es : List Expr}, chkG.go (chkG cc k) ts es = true → (assignEach es env).length = ts.length ∧ (assignEach es env).findIdx? (·.1) = none
  | [], [], _ => ⟨rfl, rfl⟩
  | t :: ts, e :: es, h => by
    obtain ⟨h1, h2⟩ := and_split h
    obtain ⟨a, b⟩ := asg_all (env := env) h2
    rw [asg_each h1]
    refine ⟨by simp [a], ?_⟩
    rw [List.findIdx?_cons, b]
    rfl
  | [], _ :: _, h => by cases h
  | _ :: _, [], h => by cases h
theorem snd_G (ok : Ok Γ CT X W cc) (Z : Zt) : ∀ {k : Nat} {t : T} {e : Expr}, chkG cc k t e = true → PG X e (gG X.K Z k t)
  | 0, _, _, h => by cases h
  | k + 1, .nm i, e, h => by
    cases e with
    | Name x p =>
      obtain ⟨h1, h2⟩ := and_split (show (decide (cc.N[i]? = some x) && cc.st x) = true from h)
      have hi := of_decide_eq_true h1
      rw [← ok.n] at hi
      obtain ⟨l1, l2⟩ := ok.st x h2
      refine PG.imp (pg_name ok.nd hi l1 l2) fun v σ H Q ⟨F, env, d, S, r, q⟩ => ?_
      obtain ⟨c, q⟩ := ckP_get q
      have il : i < X.N.length := (List.getElem?_eq_some_iff.mp hi).1
      by_cases il' : i < env.length
      · refine q _ (S.store il' (S.asg c) trivial r) ⟨by simp, fun j hj => ?_⟩
        exact List.getElem?_set_ne fun z => hj (by rw [← z]; exact List.mem_singleton.mpr rfl)
      · have : ∀ {env : Env} {i : Nat} {u : Option U}, ¬ i < env.length → put env i u = env := by
          intro env
          induction env with
          | nil => intro i u _; rfl
          | cons w r ih => intro i u hi; cases i with
            | zero => simp at hi
            | succ i => show w :: put r i u = _; rw [ih (by simpa using hi)]
        rw [this il'] at q
        have e1 : σ.set i (some v) = σ := List.set_eq_of_length_le (by rw [← S.len]; omega)
        show Q _ H
        rw [e1]
        exact q σ S (Agree.refl _ _)
    | _ => cases h
  | k + 1, .tp ts, e, h => by
    cases e with
    | Tuple es kk p =>
      have go : ∀ (ts : List T) (es : List Expr), chkG.go (chkG cc k) ts es = true → PGs X es (gGs X.K Z k ts) := by
        intro ts
        induction ts with
        | nil => intro es h; cases es with
          | cons _ _ => cases h
          | nil =>
            refine PGs.imp pgs_nil fun vs σ H Q ⟨F, env, ds, S, r, q⟩ => ?_
            cases ds with
            | nil => cases r; exact ⟨rfl, q σ S (Agree.refl _ _)⟩
            | cons _ _ => exact q.elim
        | cons t ts ih => intro es h; cases es with
          | nil => cases h
          | cons e es =>
            obtain ⟨h1, h2⟩ := and_split h
            refine PGs.imp (pgs_cons (snd_G ok Z h1) (ih es h2) (by rw [asg_each h1]; rfl)) fun vs σ H Q ⟨F, env, ds, S, r, q⟩ => ?_
            cases ds with
            | nil => exact q.elim
            | cons d ds =>
              cases r with
              | cons r1 r2 =>
                refine ⟨_, _, rfl, F, env, d, S, r1, bindT_mono q fun e1 q1 σ1 S1 a1 => ⟨F, e1, ds, S1, r2, ?_⟩⟩
                have gm : ∀ {ts : List T} {ds : List D} {env : Env} {Q Q' : Env → Prop}, bindT.go (bindT k) ts ds env Q → (∀ e, Q e → Q' e) → bindT.go (bindT k) ts ds env Q' := by
                  intro ts ds env Q Q' h f
                  exact bindT_mono (n := k + 1) (t := .tp ts) (d := .tuple ds) h f
                refine gm q1 fun e2 q2 σ2 S2 a2 => q2 σ2 S2 (a1.trans a2 (fun i hi => ?_) fun i hi => ?_)
                · rw [List.flatMap_cons]; exact List.mem_append_left _ hi
                · rw [List.flatMap_cons]; exact List.mem_append_right _ hi
      have hg : chkG.go (chkG cc k) ts es = true := h
      obtain ⟨l1, l2⟩ := asg_all (env := X.env) hg
      refine PG.imp (pg_tup ok.calm (go ts es hg) l1 l2) fun v σ H Q ⟨F, env, d, S, r, q⟩ => ?_
      cases d with
      | tuple ds =>
        cases r with
        | tup hF rs =>
          have hl := go_len (k := k) q
          exact ⟨_, _, rfl, SqT.of (S.le _ _ hF), rs.length.trans hl.symm, F, env, ds, S, rs, q⟩
      | _ => exact q.elim
    | _ => cases h
end
end GM

set_option maxRecDepth 100000
/-! GM: what is walked -/
namespace GM
open PySem PySem.Spec PyProof.Rows L2
/-- J yields ds -/
def Wk (F0 : Hp) (ds : List D) (J : It) : Prop := ∀ F H, Same F0 F → Same F H → (∀ i, i < ds.length → J.go i H ∧ ∀ x H', J.yld i H x H' → ∃ F' d, Grow F H F' H' ∧ ds[i]? = some d ∧ Rep F' x d) ∧ ∀ i, ds.length ≤ i → J.stop i H
theorem wk_list {K : PySem.W.Frag} {F : Hp} {a : Addr} {vs : List V} {ds : List D} (h : F a = some (.lst vs)) (r : Reps F vs ds) : Wk F ds (Itl K a) := fun F1 H s1 s2 => by
  have q : SqL K H a vs := SqL.of (s2 _ _ (s1 _ _ h))
  refine ⟨fun i hi => ?_, fun i hi => ⟨vs, q, by rw [r.length]; exact hi⟩⟩
  have hl : i < vs.length := by rw [r.length]; exact hi
  refine ⟨⟨vs, vs[i], q, List.getElem?_eq_getElem hl⟩, ?_⟩
  rintro x H' ⟨rfl, y⟩
  obtain ⟨d, e, rd⟩ := r.getV (y vs q)
  exact ⟨F1, d, Grow.refl s2, e, rd.mono s1⟩
theorem wk_tup {K : PySem.W.Frag} {F : Hp} {a : Addr} {vs : List V} {ds : List D} (h : F a = some (.tup vs)) (r : Reps F vs ds) : Wk F ds (Itt K a) := fun F1 H s1 s2 => by
  have q : SqT K H a vs := SqT.of (s2 _ _ (s1 _ _ h))
  refine ⟨fun i hi => ?_, fun i hi => ⟨vs, q, by rw [r.length]; exact hi⟩⟩
  have hl : i < vs.length := by rw [r.length]; exact hi
  refine ⟨⟨vs, vs[i], q, List.getElem?_eq_getElem hl⟩, ?_⟩
  rintro x H' ⟨rfl, y⟩
  obtain ⟨d, e, rd⟩ := r.getV (y vs q)
  exact ⟨F1, d, Grow.refl s2, e, rd.mono s1⟩
theorem rngI_length (lo : Int) (n : Nat) : (rngI lo n).length = n := by simp [rngI]
theorem rngI_get {lo : Int} {n i : Nat} (h : i < n) : (rngI lo n)[i]? = some (.int (lo + i)) := by simp [rngI, h]
theorem wk_rng {F : Hp} {lo : Int} {n : Nat} : Wk F (rngI lo n) (Itr lo n) := fun F1 H s1 s2 => by
  refine ⟨fun i hi => ?_, fun i hi => ?_⟩
  · rw [rngI_length] at hi
    refine ⟨hi, ?_⟩
    rintro x H' ⟨rfl, rfl⟩
    exact ⟨F1, _, Grow.refl s2, rngI_get hi, .int _⟩
  · rw [rngI_length] at hi; exact hi
theorem pairRep {F H : Hp} {T : Addr} {x y : V} {c d : D} (s : Same F H) (hT : H T = none) (rx : Rep F x c) (ry : Rep F y d) : Grow F H (upd F T (.tup [x, y])) (upd H T (.tup [x, y])) ∧ Rep (upd F T (.tup [x, y])) (.ref T) (.tuple [c, d]) := by
  have m := same_upd (o := .tup [x, y]) (noneF s hT)
  exact ⟨Grow.froz s hT, .tup upd_same (.cons (rx.mono m) (.cons (ry.mono m) .nil))⟩
theorem zipIdx_at {ds : List D} {i : Nat} {d : D} (h : ds[i]? = some d) : (ds.zipIdx.map D_pair)[i]? = some (.tuple [.int i, d]) := by
  rw [List.getElem?_map, List.getElem?_zipIdx, h]
  simp [D_pair]
theorem wk_enumL {K : PySem.W.Frag} {F : Hp} {a : Addr} {vs : List V} {ds : List D} (h : F a = some (.lst vs)) (r : Reps F vs ds) : Wk F (ds.zipIdx.map D_pair) (Ite K a) := fun F1 H s1 s2 => by
  have q : SqL K H a vs := SqL.of (s2 _ _ (s1 _ _ h))
  rw [List.length_map, List.length_zipIdx]
  refine ⟨fun i hi => ?_, fun i hi => ⟨vs, q, by rw [r.length]; exact hi⟩⟩
  have hl : i < vs.length := by rw [r.length]; exact hi
  refine ⟨⟨vs, vs[i], q, List.getElem?_eq_getElem hl⟩, ?_⟩
  rintro x H' ⟨T, y, rfl, hT, rfl, f⟩
  obtain ⟨d, e, rd⟩ := r.getV (f vs q)
  obtain ⟨g, rr⟩ := pairRep s2 hT (.int (i : Int)) (rd.mono s1)
  exact ⟨_, _, g, zipIdx_at e, rr⟩
theorem wk_enumT {K : PySem.W.Frag} {F : Hp} {a : Addr} {vs : List V} {ds : List D} (h : F a = some (.tup vs)) (r : Reps F vs ds) : Wk F (ds.zipIdx.map D_pair) (IteT K a) := fun F1 H s1 s2 => by
  have q : SqT K H a vs := SqT.of (s2 _ _ (s1 _ _ h))
  rw [List.length_map, List.length_zipIdx]
  refine ⟨fun i hi => ?_, fun i hi => ⟨vs, q, by rw [r.length]; exact hi⟩⟩
  have hl : i < vs.length := by rw [r.length]; exact hi
  refine ⟨⟨vs, vs[i], q, List.getElem?_eq_getElem hl⟩, ?_⟩
  rintro x H' ⟨T, y, rfl, hT, rfl, f⟩
  obtain ⟨d, e, rd⟩ := r.getV (f vs q)
  obtain ⟨g, rr⟩ := pairRep s2 hT (.int (i : Int)) (rd.mono s1)
  exact ⟨_, _, g, zipIdx_at e, rr⟩
theorem zip_at {ds es : List D} {i : Nat} {d e : D} (h : ds[i]? = some d) (h2 : es[i]? = some e) : ((ds.zip es).map fun p => PyData.tuple [p.1, p.2])[i]? = some (.tuple [d, e]) := by
  have : (ds.zip es)[i]? = some (d, e) := List.getElem?_zip_eq_some.mpr ⟨h, h2⟩
  rw [List.getElem?_map, this]
  rfl
theorem wk_zipL {K : PySem.W.Frag} {F : Hp} {a b : Addr} {vs ws : List V} {ds es : List D} (h : F a = some (.lst vs)) (r : Reps F vs ds) (h2 : F b = some (.lst ws)) (r2 : Reps F ws es) : Wk F ((ds.zip es).map fun p => .tuple [p.1, p.2]) (Itz K a b) := fun F1 H s1 s2 => by
  have q : SqL K H a vs := SqL.of (s2 _ _ (s1 _ _ h))
  have q2 : SqL K H b ws := SqL.of (s2 _ _ (s1 _ _ h2))
  have l1 := r.length
  have l2 := r2.length
  rw [List.length_map, List.length_zip]
  refine ⟨fun i hi => ?_, fun i hi => ⟨vs, ws, q, q2, by omega⟩⟩
  have hl : i < vs.length := by omega
  have hl2 : i < ws.length := by omega
  refine ⟨⟨vs, ws, vs[i], ws[i], q, q2, List.getElem?_eq_getElem hl, List.getElem?_eq_getElem hl2⟩, ?_⟩
  rintro x H' ⟨T, y, z, rfl, hT, rfl, f, f2⟩
  obtain ⟨d, e, rd⟩ := r.getV (f vs q)
  obtain ⟨d2, e2, rd2⟩ := r2.getV (f2 ws q2)
  obtain ⟨g, rr⟩ := pairRep s2 hT (rd.mono s1) (rd2.mono s1)
  exact ⟨_, _, g, zip_at e e2, rr⟩
theorem wk_zipT {K : PySem.W.Frag} {F : Hp} {a b : Addr} {vs ws : List V} {ds es : List D} (h : F a = some (.tup vs)) (r : Reps F vs ds) (h2 : F b = some (.tup ws)) (r2 : Reps F ws es) : Wk F ((ds.zip es).map fun p => .tuple [p.1, p.2]) (RZ.ItzT K a b) := fun F1 H s1 s2 => by
  have q : SqT K H a vs := SqT.of (s2 _ _ (s1 _ _ h))
  have q2 : SqT K H b ws := SqT.of (s2 _ _ (s1 _ _ h2))
  have l1 := r.length
  have l2 := r2.length
  rw [List.length_map, List.length_zip]
  refine ⟨fun i hi => ?_, fun i hi => ⟨vs, ws, q, q2, by omega⟩⟩
  have hl : i < vs.length := by omega
  have hl2 : i < ws.length := by omega
  refine ⟨⟨vs, ws, vs[i], ws[i], q, q2, List.getElem?_eq_getElem hl, List.getElem?_eq_getElem hl2⟩, ?_⟩
  rintro x H' ⟨T, y, z, rfl, hT, rfl, f, f2⟩
  obtain ⟨d, e, rd⟩ := r.getV (f vs q)
  obtain ⟨d2, e2, rd2⟩ := r2.getV (f2 ws q2)
  obtain ⟨g, rr⟩ := pairRep s2 hT (rd.mono s1) (rd2.mono s1)
  exact ⟨_, _, g, zip_at e e2, rr⟩
theorem wk_revL {K : PySem.W.Frag} {F : Hp} {a : Addr} {vs : List V} {ds : List D} (h : F a = some (.lst vs)) (r : Reps F vs ds) : Wk F ds.reverse (Itv K a vs.length) := fun F1 H s1 s2 => by
  have q : SqL K H a vs := SqL.of (s2 _ _ (s1 _ _ h))
  have l1 := r.length
  rw [List.length_reverse]
  refine ⟨fun i hi => ?_, fun i hi => by show vs.length ≤ i; omega⟩
  have hl : vs.length - 1 - i < vs.length := by omega
  refine ⟨⟨by omega, vs, vs[vs.length - 1 - i], q, List.getElem?_eq_getElem hl⟩, ?_⟩
  rintro x H' ⟨rfl, f⟩
  obtain ⟨d, e, rd⟩ := r.getV (f vs q)
  refine ⟨F1, d, Grow.refl s2, ?_, rd.mono s1⟩
  rw [List.getElem?_reverse hi, ← l1]
  exact e
theorem wk_revT {K : PySem.W.Frag} {F : Hp} {a : Addr} {vs : List V} {ds : List D} (h : F a = some (.tup vs)) (r : Reps F vs ds) : Wk F ds.reverse (RT.ItvT K a vs.length) := fun F1 H s1 s2 => by
  have q : SqT K H a vs := SqT.of (s2 _ _ (s1 _ _ h))
  have l1 := r.length
  rw [List.length_reverse]
  refine ⟨fun i hi => ?_, fun i hi => by show vs.length ≤ i; omega⟩
  have hl : vs.length - 1 - i < vs.length := by omega
  refine ⟨⟨by omega, vs, vs[vs.length - 1 - i], q, List.getElem?_eq_getElem hl⟩, ?_⟩
  rintro x H' ⟨rfl, f⟩
  obtain ⟨d, e, rd⟩ := r.getV (f vs q)
  refine ⟨F1, d, Grow.refl s2, ?_, rd.mono s1⟩
  rw [List.getElem?_reverse hi, ← l1]
  exact e
section
variable {Γ : Nat → Option FS} {CT : CTab} {X : Cx} {W : WX} {cc : CC} {Z : Zt} {n : Nat} {tg : Expr}
theorem PI.imp {e : Expr} {t t' : TI} (h : PI X tg e t) (f : ∀ σ H R, t' σ H R → t σ H R) : PI X tg e t' := ⟨fun pins s σ H R I q => h.run pins s σ H R I (f _ _ _ q)⟩
/-- a list or a tuple -/
theorem pi_seq {l : Expr} {tl : TE} (hl : PE X l tl) : PI X tg l (fun σ H R => tl σ H fun x H1 => ∃ a, x = .ref a ∧ ((∃ xs, SqL X.K H1 a xs ∧ R (Itl X.K a) H1) ∨ ∃ xs, SqT X.K H1 a xs ∧ R (Itt X.K a) H1)) := by
  constructor
  intro pins s σ H R I0 h0
  have end_ : ∀ {s1 : Shared} {H1 : Hp} {o : Obj}, Inv X pins σ H1 s1 → Inv X pins σ H1 { s1 with heap := s1.heap.push o } ∧ ∀ b ∈ [s1.heap.objs.size], FpOk X pins H1 b := fun {s1 H1 o} I1 =>
    ⟨I1.kept (t' := s1.toks) fun b u e => Heap.get?_push_of_some _ e, fun b hb => by
      rw [List.mem_singleton.mp hb]
      exact I1.fpOk (Nat.le_refl _) (I1.hok.fresh (Nat.le_refl _))⟩
  have main := hl.run pins s σ H _ I0 h0
  refine thn main ?_
  rintro v s1 ⟨x, H1, I1, r1, a, ex, alt⟩
  subst ex
  cases r1
  rcases alt with ⟨xs, sq, fin⟩ | ⟨xs, sq, fin⟩
  · obtain ⟨its, _, at1, _⟩ := I1.list sq
    refine wpAny_pyIter_list at1.isList ⟨_, _, _, _, H1, rfl, (end_ I1).1, turn_list a _, ?_, (end_ (o := default) I1).2, fin⟩
    exact ⟨_, Heap.get?_push_size _ rfl, rfl, rfl⟩
  · obtain ⟨its, _, at1, _⟩ := I1.tuple sq
    have at2 : s1.heap.IsTuple a its.toArray := at1
    refine wpAny_pyIter_tuple at2 ⟨_, _, _, _, H1, rfl, (end_ I1).1, turn_tuple a _, ?_, (end_ (o := default) I1).2, fin⟩
    exact ⟨_, Heap.get?_push_size _ rfl, rfl, rfl⟩
def iG (Γ : Nat → Option FS) (CT : CTab) (K : PySem.W.Frag) (W : WX) (Z : Zt) (n : Nat) (m : M) : TI := fun σ H R => ∃ F env, SR K Z F H σ env ∧ wpI (wpE Γ n) m env (PX CT K W Z σ F) fun ds env' => ∀ J F' H', Same F F' → SR K Z F' H' σ env' → Wk F' ds J → R J H'
theorem fold_ok {e : Expr} {env : PySem.Env} (h : notSet e = true) : ∀ x, foldedSetIterable e env x = pure x := fun x => by
  cases e <;> first | rfl | cases h
theorem Rds.ints1 {F H : Hp} {vs : List V} {i : Int} (h : Rds F H vs [.int i]) : vs = [.int i] := by
  cases h with | cons a t => cases t; rw [a.int]
theorem Rds.ints2 {F H : Hp} {vs : List V} {i j : Int} (h : Rds F H vs [.int i, .int j]) : vs = [.int i, .int j] := by
  cases h with | cons a t => cases t with | cons b t => cases t; rw [a.int, b.int]
theorem wpOs_len {rec : WE} (MR : MonoE rec) : ∀ {ms : List M} {env : Env} {Qx : QX} {Q : List Op → Env → Prop}, wpOs rec ms env Qx Q → wpOs rec ms env Qx fun ds e => ds.length = ms.length ∧ Q ds e
  | [], _, _, _, h => ⟨rfl, h⟩
  | m :: ms, _, _, _, h => by
    rw [wpOs_cons] at h ⊢
    exact wpR_mono MR h (fun _ _ z => z) fun _ _ h1 => wpOs_mono (fx := True) MR (wpOs_len MR h1) (fun _ _ z => z) fun _ _ ⟨e, q⟩ => ⟨by simp [e], q⟩
theorem rdvs_len {env : Env} : ∀ {os : List Op} {ds : List D}, rdvs env os = some ds → ds.length = os.length
  | [], _, e => by cases e; rfl
  | o :: os, ds, e => by
    simp only [rdvs] at e
    cases q : rdv env o with
    | none => rw [q] at e; cases e
    | some d =>
      rw [q] at e
      cases q2 : rdvs env os with
      | none => rw [q2] at e; cases e
      | some ds' => rw [q2] at e; cases e; simp [rdvs_len q2]
theorem frz_seq2 {σ : L2.St} {K : PySem.W.Frag} {F1 H1 : Hp} {env1 : GM.Env} {u : U} {v : V} {d : D} {ds : List D} (S1 : SR K Z F1 H1 σ env1) (r1 : RU Z F1 H1 σ env1 v u) (e0 : u.fz = some d) (e1 : seqD d = some ds) :
    ∃ F2 vs, Same F1 F2 ∧ SR K Z F2 H1 σ env1 ∧ ((∃ b, v = .ref b ∧ F2 b = some (.lst vs) ∧ Reps F2 vs ds ∧ isL d = true) ∨ ∃ b, v = .ref b ∧ F2 b = some (.tup vs) ∧ Reps F2 vs ds ∧ isL d = false) := by
  obtain ⟨F2, s2, S2, r2⟩ := RU.fz S1 r1 e0
  cases d with
  | list xs =>
    cases r2 with
    | lst ha ra =>
      obtain rfl : xs = ds := by cases e1; rfl
      exact ⟨F2, _, s2, S2, .inl ⟨_, rfl, ha, ra, rfl⟩⟩
  | tuple xs =>
    cases r2 with
    | tup ha ra =>
      obtain rfl : xs = ds := by cases e1; rfl
      exact ⟨F2, _, s2, S2, .inr ⟨_, rfl, ha, ra, rfl⟩⟩
  | _ => cases e1
theorem frz_seq {σ : L2.St} {K : PySem.W.Frag} {F1 H1 : Hp} {env1 : GM.Env} {u : U} {v : V} {ds : List D} (S1 : SR K Z F1 H1 σ env1) (r1 : RU Z F1 H1 σ env1 v u) (e1 : u.fz.bind seqD = some ds) :
    ∃ F2 vs, Same F1 F2 ∧ SR K Z F2 H1 σ env1 ∧ ((∃ b, v = .ref b ∧ F2 b = some (.lst vs) ∧ Reps F2 vs ds) ∨ ∃ b, v = .ref b ∧ F2 b = some (.tup vs) ∧ Reps F2 vs ds) := by
  cases e2 : u.fz with
  | none => rw [e2] at e1; cases e1
  | some d =>
    rw [e2] at e1
    obtain ⟨F2, vs, s2, S2, alt⟩ := frz_seq2 S1 r1 e2 e1
    rcases alt with ⟨b, h1, h2, h3, _⟩ | ⟨b, h1, h2, h3, _⟩
    · exact ⟨F2, vs, s2, S2, .inl ⟨b, h1, h2, h3⟩⟩
    · exact ⟨F2, vs, s2, S2, .inr ⟨b, h1, h2, h3⟩⟩
theorem snd_I (IH : SoundE Γ CT n) (ok : Ok Γ CT X W cc) (Z : Zt) {m : M} {e : Expr} (h : chkI cc (chkE n cc) tg m e = true) : PI X tg e (iG Γ CT X.K W Z n m) ∧ notSet e = true := by
  by_cases hr : ∃ as, m = .irng as
  · obtain ⟨as, rfl⟩ := hr
    cases e with
    | Call g es kws p =>
      cases g with
      | Name x xp =>
        cases kws with
        | cons _ _ => cases h
        | nil =>
          obtain ⟨h, h4⟩ := and_split (show (decide (x = "range") && gloB cc x && chkL (chkE n cc) as es && (decide (es.length = 1) || decide (es.length = 2))) = true from h)
          obtain ⟨h, h3⟩ := and_split h
          obtain ⟨h1, h2⟩ := and_split h
          have ex := of_decide_eq_true h1
          subst ex
          obtain ⟨gl, gd⟩ := ok.gl h2
          have pa := snd_Os IH ok Z h3
          have hm : X.mg "range" = none := ok.blt _ (by decide)
          refine ⟨?_, rfl⟩
          have read : ∀ (σ : L2.St) (H : Hp) (R : It → Hp → Prop), iG Γ CT X.K W Z n (.irng as) σ H R → tOs Γ CT X.K W Z n as σ H fun vs H1 => as.length = vs.length ∧ ((∃ k : Int, vs = [.int k] ∧ -(2 ^ 62) ≤ k ∧ k < 2 ^ 62 ∧ R (Itr 0 k.toNat) H1) ∨
              (∃ a b : Int, vs = [.int a, .int b] ∧ (-(2 ^ 62) ≤ a ∧ a < 2 ^ 62 ∧ -(2 ^ 62) ≤ b ∧ b < 2 ^ 62) ∧ R (Itr a (b - a).toNat) H1) ∨ vs.length = 3) := by
            rintro σ H R ⟨F, env, S, q⟩
            unfold wpI at q
            dsimp only at q
            refine ⟨F, env, S, wpOs_mono (wpE_mono Γ n) (fx := True) (wpOs_len (wpE_mono Γ n) q) (fun _ _ z => z) fun os env1 ⟨el, q1⟩ vs F1 H1 s1 S1 r1 => ?_⟩
            obtain ⟨ds, e1, q2⟩ := optP_get q1
            have e3 := rdvs_len e1
            have rr := r1.rds S1 same_refl e1
            have ev : as.length = vs.length := by rw [rr.length, e3, el]
            refine ⟨ev, ?_⟩
            split at q2
            · obtain ⟨c, q3⟩ := ckP_get q2
              exact .inl ⟨_, rr.ints1, c.1, c.2, q3 _ _ _ s1 S1 wk_rng⟩
            · obtain ⟨c, q3⟩ := ckP_get q2
              exact .inr (.inl ⟨_, _, rr.ints2, c, q3 _ _ _ s1 S1 wk_rng⟩)
            · exact .inr (.inr (by rw [rr.length]; rfl))
            · exact q2.elim
          have el := chkL_len h3
          match es, el, h3, h4, pa with
          | [a], el, h3, h4, pa =>
            match as, h3, pa, read, el with
            | [m1], h3, pa, read, el =>
              obtain ⟨k1, _⟩ := and_split h3
              refine PI.imp (pi_range1 gl hm pa (chk_star k1 [] [] _)) fun σ H R q => ?_
              obtain ⟨F, env, S, q⟩ := read _ _ _ q
              refine ⟨F, env, S, wpOs_mono (wpE_mono Γ n) (fx := True) q (fun _ _ z => z) fun os env1 q1 vs F1 H1 s1 S1 r1 => ?_⟩
              obtain ⟨l, q2 | ⟨a, b, rfl, _⟩ | l2⟩ := q1 vs F1 H1 s1 S1 r1
              · exact q2
              · cases l
              · rw [l2] at l; cases l
          | [a, b], el, h3, h4, pa =>
            match as, h3, pa, read, el with
            | [m1, m2], h3, pa, read, el =>
              obtain ⟨k1, k2⟩ := and_split h3
              obtain ⟨k2, _⟩ := and_split k2
              refine PI.imp (pi_range2 gl hm pa (by rw [chk_star k1 [] _ _, chk_star k2 [] _ _]; rfl) (chk_star k2 [] [] _)) fun σ H R q => ?_
              obtain ⟨F, env, S, q⟩ := read _ _ _ q
              refine ⟨F, env, S, wpOs_mono (wpE_mono Γ n) (fx := True) q (fun _ _ z => z) fun os env1 q1 vs F1 H1 s1 S1 r1 => ?_⟩
              obtain ⟨l, ⟨k, rfl, _⟩ | q2 | l2⟩ := q1 vs F1 H1 s1 S1 r1
              · cases l
              · exact q2
              · rw [l2] at l; cases l
          | [], el, h3, h4, pa => cases h4
          | _ :: _ :: _ :: _, el, h3, h4, pa => simp at h4
      | _ => cases h
    | _ => cases h
  by_cases hen : ∃ a, m = .ienum a
  · obtain ⟨a, rfl⟩ := hen
    match e, h with
    | .Call (.Name x xp) [y] [] p, h =>
      obtain ⟨h, h4⟩ := and_split (show (decide (x = "enumerate") && gloB cc x && chkE n cc a y && isTupE tg) = true from h)
      obtain ⟨h, h3⟩ := and_split h
      obtain ⟨h1, h2⟩ := and_split h
      have ex := of_decide_eq_true h1
      subst ex
      obtain ⟨gl, gd⟩ := ok.gl h2
      match tg, h4 with
      | .Tuple elts kk tpos, _ =>
        refine ⟨PI.imp (pi_enumA gl (ok.blt _ (by decide)) (pa_cons (IH cc X W ok Z a y h3) pa_nil (chk_star h3 [] [] _)) (chk_star h3 [] [] _)) fun σ H R ⟨F, env, S, q⟩ => ⟨F, env, S, ?_⟩, rfl⟩
        have q' : wpE Γ n a env (PX CT X.K W Z σ F) fun u env1 => optP (u.fz.bind seqD) fun ds => ∀ J F' H', Same F F' → SR X.K Z F' H' σ env1 → Wk F' (ds.zipIdx.map D_pair) J → R J H' := q
        refine wpE_mono Γ n _ _ _ _ _ _ q' (fun _ _ z => z) fun u env1 q1 v F1 H1 s1 S1 r1 => ?_
        obtain ⟨ds, e1, q2⟩ := optP_get q1
        obtain ⟨F2, vs, s2, S2, alt⟩ := frz_seq S1 r1 e1
        rcases alt with ⟨b, rfl, hb, rb⟩ | ⟨b, rfl, hb, rb⟩
        · exact ⟨b, vs, rfl, .inl ⟨SqL.of (S2.le _ _ hb), q2 _ F2 H1 (s1.trans s2) S2 (wk_enumL hb rb)⟩⟩
        · exact ⟨b, vs, rfl, .inr ⟨SqT.of (S2.le _ _ hb), q2 _ F2 H1 (s1.trans s2) S2 (wk_enumT hb rb)⟩⟩
  by_cases hrv : ∃ a, m = .irev a
  · obtain ⟨a, rfl⟩ := hrv
    match e, h with
    | .Call (.Name x xp) [y] [] p, h =>
      obtain ⟨h, h3⟩ := and_split (show (decide (x = "reversed") && gloB cc x && chkE n cc a y) = true from h)
      obtain ⟨h1, h2⟩ := and_split h
      have ex := of_decide_eq_true h1
      subst ex
      obtain ⟨gl, gd⟩ := ok.gl h2
      refine ⟨PI.imp (RT.pi_revA gl (ok.blt _ (by decide)) (IH cc X W ok Z a y h3) (chk_star h3 [] [] _)) fun σ H R ⟨F, env, S, q⟩ => ⟨F, env, S, ?_⟩, rfl⟩
      have q' : wpE Γ n a env (PX CT X.K W Z σ F) fun u env1 => optP (u.fz.bind seqD) fun ds => ∀ J F' H', Same F F' → SR X.K Z F' H' σ env1 → Wk F' ds.reverse J → R J H' := q
      refine wpE_mono Γ n _ _ _ _ _ _ q' (fun _ _ z => z) fun u env1 q1 v F1 H1 s1 S1 r1 => ?_
      obtain ⟨ds, e1, q2⟩ := optP_get q1
      obtain ⟨F2, vs, s2, S2, alt⟩ := frz_seq S1 r1 e1
      rcases alt with ⟨b, rfl, hb, rb⟩ | ⟨b, rfl, hb, rb⟩
      · exact ⟨b, vs, rfl, .inl ⟨SqL.of (S2.le _ _ hb), q2 _ F2 H1 (s1.trans s2) S2 (wk_revL hb rb)⟩⟩
      · exact ⟨b, vs, rfl, .inr ⟨SqT.of (S2.le _ _ hb), q2 _ F2 H1 (s1.trans s2) S2 (wk_revT hb rb)⟩⟩
  by_cases hzp : ∃ a b, m = .izip a b
  · obtain ⟨a, b, rfl⟩ := hzp
    match e, h with
    | .Call (.Name x xp) [y, z] [] p, h =>
      obtain ⟨h, h5⟩ := and_split (show (decide (x = "zip") && gloB cc x && chkE n cc a y && chkE n cc b z && isTupE tg) = true from h)
      obtain ⟨h, h4⟩ := and_split h
      obtain ⟨h, h3⟩ := and_split h
      obtain ⟨h1, h2⟩ := and_split h
      have ex := of_decide_eq_true h1
      subst ex
      obtain ⟨gl, gd⟩ := ok.gl h2
      match tg, h5 with
      | .Tuple elts kk tpos, _ =>
        refine ⟨PI.imp (RZ.pi_zipA gl (ok.blt _ (by decide)) (pa_cons (IH cc X W ok Z a y h3) (pa_cons (IH cc X W ok Z b z h4) pa_nil (chk_star h4 [] [] _)) (chk_star h3 [] [z] _)) (chk_star h3 [] [z] _) (by rw [chk_star h4 [] [] _]; rfl)) fun σ H R ⟨F, env, S, q⟩ => ⟨F, env, S, ?_⟩, rfl⟩
        have q' : wpE Γ n a env (PX CT X.K W Z σ F) fun u env1 => optP u.fz fun d => optP (seqD d) fun ds => wpE Γ n b env1 (PX CT X.K W Z σ F) fun w env2 => optP w.fz fun e => optP (seqD e) fun es => ckP (isL d = isL e) (∀ J F' H', Same F F' → SR X.K Z F' H' σ env2 → Wk F' ((ds.zip es).map fun p => .tuple [p.1, p.2]) J → R J H') := q
        refine wpE_mono Γ n _ _ _ _ _ _ q' (fun _ _ z => z) fun u env1 q1 v F1 H1 s1 S1 r1 => ?_
        obtain ⟨d, e0, q1⟩ := optP_get q1
        obtain ⟨ds, e1, q2⟩ := optP_get q1
        obtain ⟨F2, vs, s2, S2, alt⟩ := frz_seq2 S1 r1 e0 e1
        refine ⟨F2, env1, S2, wpE_mono Γ n _ _ _ _ _ _ q2 (PX.lift (s1.trans s2)) fun w env2 q3 v2 F3 H3 s3 S3 r3 => ?_⟩
        obtain ⟨d2, e02, q3⟩ := optP_get q3
        obtain ⟨es, e2, q4⟩ := optP_get q3
        obtain ⟨c, q5⟩ := ckP_get q4
        obtain ⟨F4, ws, s4, S4, alt2⟩ := frz_seq2 S3 r3 e02 e2
        have up := s3.trans s4
        rcases alt with ⟨b, rfl, hb, rb, k1⟩ | ⟨b, rfl, hb, rb, k1⟩ <;> rcases alt2 with ⟨b2, rfl, hb2, rb2, k2⟩ | ⟨b2, rfl, hb2, rb2, k2⟩
        · exact ⟨b, b2, vs, ws, rfl, .inl ⟨SqL.of (S4.le _ _ (up _ _ hb)), SqL.of (S4.le _ _ hb2), q5 _ F4 H3 ((s1.trans s2).trans up) S4 (wk_zipL (up _ _ hb) (rb.mono up) hb2 rb2)⟩⟩
        · rw [k1, k2] at c; cases c
        · rw [k1, k2] at c; cases c
        · exact ⟨b, b2, vs, ws, rfl, .inr ⟨SqT.of (S4.le _ _ (up _ _ hb)), SqT.of (S4.le _ _ hb2), q5 _ F4 H3 ((s1.trans s2).trans up) S4 (wk_zipT (up _ _ hb) (rb.mono up) hb2 rb2)⟩⟩
  · have h' : (chkE n cc m e && notSet e) = true := by
      cases m <;> first | exact h | (cases h; done) | exact absurd ⟨_, rfl⟩ hr | exact absurd ⟨_, rfl⟩ hen | exact absurd ⟨_, rfl⟩ hrv | exact absurd ⟨_, _, rfl⟩ hzp
    obtain ⟨h1, h2⟩ := and_split h'
    refine ⟨PI.imp (pi_seq (IH cc X W ok Z m e h1)) fun σ H R ⟨F, env, S, q⟩ => ⟨F, env, S, ?_⟩, h2⟩
    have q' : wpE Γ n m env (PX CT X.K W Z σ F) fun u env1 => optP (u.fz.bind seqD) fun ds => ∀ J F' H', Same F F' → SR X.K Z F' H' σ env1 → Wk F' ds J → R J H' := by
      cases m <;> first | exact q | (cases h; done) | exact absurd ⟨_, rfl⟩ hr | exact absurd ⟨_, rfl⟩ hen | exact absurd ⟨_, rfl⟩ hrv | exact absurd ⟨_, _, rfl⟩ hzp
    refine wpE_mono Γ n _ _ _ _ _ _ q' (fun _ _ z => z) fun u env1 q1 v F1 H1 s1 S1 r1 => ?_
    obtain ⟨ds, e1, q2⟩ := optP_get q1
    cases e2 : u.fz with
    | none => rw [e2] at e1; cases e1
    | some d =>
      rw [e2] at e1
      obtain ⟨F2, s2, S2, r2⟩ := RU.fz S1 r1 e2
      cases d with
      | list xs =>
        cases r2 with
        | lst ha ra =>
          obtain rfl : xs = ds := by cases e1; rfl
          exact ⟨_, rfl, .inl ⟨_, SqL.of (S2.le _ _ ha), q2 _ F2 H1 (s1.trans s2) S2 (wk_list ha ra)⟩⟩
      | tuple xs =>
        cases r2 with
        | tup ha ra =>
          obtain rfl : xs = ds := by cases e1; rfl
          exact ⟨_, rfl, .inr ⟨_, SqT.of (S2.le _ _ ha), q2 _ F2 H1 (s1.trans s2) S2 (wk_tup ha ra)⟩⟩
      | _ => cases e1
end
end GM

set_option maxRecDepth 100000
/-! GM: comprehensions -/
namespace GM
open PySem PySem.Spec PyProof.Rows L2
/-! slots forgotten -/
theorem wipe_out {σ : L2.St} {i : Nat} : ∀ {vs : List Nat}, i ∉ vs → (wipe σ vs)[i]? = σ[i]?
  | [], _ => rfl
  | v :: vs, h => by
    unfold wipe
    rw [List.getElem?_set_ne (fun z => h (by rw [z]; exact List.mem_cons_self))]
    exact wipe_out fun z => h (List.mem_cons_of_mem _ z)
theorem wipe_in {σ : L2.St} {i : Nat} (hi : i < σ.length) : ∀ {vs : List Nat}, i ∈ vs → (wipe σ vs)[i]? = some none
  | v :: vs, h => by
    unfold wipe
    by_cases e : v = i
    · subst e
      exact List.getElem?_set_self (by rw [wipe_length]; exact hi)
    · rw [List.getElem?_set_ne e]
      rcases List.mem_cons.mp h with z | z
      · exact absurd z.symm e
      · exact wipe_in hi z
theorem wipe_agree {σ σ2 : L2.St} {L vs : List Nat} (a : Agree L (wipe σ vs) σ2) (h : ∀ i ∈ L, i ∈ vs) : wipe σ2 vs = wipe σ vs := by
  have hl : σ2.length = σ.length := by rw [a.1, wipe_length]
  apply List.ext_getElem?
  intro i
  by_cases hv : i ∈ vs
  · by_cases hi : i < σ.length
    · rw [wipe_in hi hv, wipe_in (by rw [hl]; exact hi) hv]
    · rw [List.getElem?_eq_none (by rw [wipe_length]; omega), List.getElem?_eq_none (by rw [wipe_length]; omega)]
  · rw [wipe_out hv, a.2 i fun z => hv (h i z)]
theorem wipes_length : ∀ (is : List Nat) (env : Env), (wipes is env).length = env.length
  | [], _ => rfl
  | i :: is, env => by show (put (wipes is env) i none).length = _; rw [put_length, wipes_length is env]
theorem puts_out {e0 : Env} {j : Nat} : ∀ {is : List Nat} {e : Env}, j ∉ is → get (puts e0 is e) j = get e j
  | [], _, _ => rfl
  | i :: is, e, h => by
    show get (put (puts e0 is e) i _) j = _
    rw [get_put_ne (fun z => h (by rw [z]; exact List.mem_cons_self))]
    exact puts_out fun z => h (List.mem_cons_of_mem _ z)
theorem puts_in {e0 : Env} {j : Nat} : ∀ {is : List Nat} {e : Env}, j ∈ is → j < e.length → get (puts e0 is e) j = get e0 j
  | i :: is, e, h, hl => by
    show get (put (puts e0 is e) i _) j = _
    by_cases c : i = j
    · subst c
      have : ∀ (is : List Nat) (e : Env), (puts e0 is e).length = e.length := by
        intro is
        induction is with
        | nil => intro _; rfl
        | cons i is ih => intro e; show (put (puts e0 is e) i _).length = _; rw [put_length, ih]
      rw [get_put_same (by rw [this]; exact hl)]
    · rw [get_put_ne c]
      rcases List.mem_cons.mp h with z | z
      · exact absurd z.symm c
      · exact puts_in z hl
theorem puts_length (e0 : Env) : ∀ (is : List Nat) (e : Env), (puts e0 is e).length = e.length
  | [], _ => rfl
  | i :: is, e => by show (put (puts e0 is e) i _).length = _; rw [put_length, puts_length e0 is e]
theorem get_none_ge {env : Env} {j : Nat} (h : ¬ j < env.length) : get env j = none := by
  cases q : get env j with
  | none => rfl
  | some u => exact absurd (get_some_lt q) h
theorem plainAll_at {env : Env} : ∀ {is : List Nat}, plainAll env is → ∀ i ∈ is, plainAt env i
  | _ :: _, h, i, m => by
    rcases List.mem_cons.mp m with z | z
    · rw [z]; exact h.1
    · exact plainAll_at h.2 i z
theorem plain_at {env1 : Env} {own : List Nat} (p : plainAll env1 own) {i : Nat} {u : U} (hi : i ∈ own) (g : get env1 i = some u) : ∃ d, u = .v d := by
  have q := plainAll_at p i hi
  unfold plainAt at q
  rw [g] at q
  cases u with
  | v d => exact ⟨d, rfl⟩
  | _ => exact q.elim
theorem own_puts {env1 e : Env} {own : List Nat} (p : plainAll env1 own) {i : Nat} (o : Own (puts env1 own e) i) : i ∉ own ∧ Own e i := by
  by_cases hi : i ∈ own
  · exfalso
    have hlt : i < e.length := by
      rcases o with ⟨xs, g⟩ | ⟨xs, g⟩ <;> (have := get_some_lt g; rwa [puts_length] at this)
    rcases o with ⟨xs, g⟩ | ⟨xs, g⟩ <;> (rw [puts_in hi hlt] at g; obtain ⟨d, z⟩ := plain_at p hi g; cases z)
  · refine ⟨hi, ?_⟩
    rcases o with ⟨xs, g⟩ | ⟨xs, g⟩
    · rw [puts_out hi] at g; exact .inl ⟨xs, g⟩
    · rw [puts_out hi] at g; exact .inr ⟨xs, g⟩
def ZP (Z : Zt) (a : Addr) (vs : List V) : Zt := { Z with P := upd Z.P a (.lst vs) }
section
variable {K : PySem.W.Frag} {Z : Zt} {F H F' H' : Hp} {σ : L2.St} {env : Env}
theorem SR.plain (S : SR K Z F H σ env) {i : Nat} (h : plainAt env i) : Z.X i = none := by
  cases q : Z.X i with
  | none => rfl
  | some a =>
    obtain ⟨⟨xs, g⟩, _⟩ := S.ref i a q
    unfold plainAt at h
    rw [g] at h
    exact h.elim
theorem SR.wipes (S : SR K Z F H σ env) : ∀ {is : List Nat}, (∀ i ∈ is, Z.X i = none) → SR K Z F H (wipe σ is) (GM.wipes is env)
  | [], _ => S
  | i :: is, h => by
    unfold wipe
    exact SR.forget (h i List.mem_cons_self) (SR.wipes S fun j m => h j (List.mem_cons_of_mem _ m))
/-- a new list is laid that the walk holds -/
theorem SR.lay (S : SR K Z F H σ env) {a : Addr} (ha : H a = none) (vs : List V) : SR K (ZP Z a vs) F (upd H a (.lst vs)) σ env := by
  have S1 := S.grow (Grow.own (o := .lst vs) S.le ha)
  have hF := S.noneF ha
  refine ⟨S1.len, S1.le, fun b x e => ?_, S1.base, fun b h => ?_, S1.dom, fun i u g => ?_, S1.dis, S1.ref⟩
  · have e : upd Z.P a (.lst vs) b = some x := e
    by_cases hb : b = a
    · subst hb; rw [upd_same] at e ⊢; exact e
    · rw [upd_ne hb] at e ⊢; exact S.keep _ _ e
  · rcases S1.new b h with z | z
    · exact .inl z
    · refine .inr ⟨z.1, ?_⟩
      have hb : b ≠ a := fun z => h (by rw [z]; exact hF)
      show upd Z.P a (.lst vs) b = none
      rw [upd_ne hb]; exact z.2
  · obtain ⟨v, e, r⟩ := S.slot i u g
    refine ⟨v, e, ?_⟩
    have nb : ∀ {b : Addr} {x : HO}, H b = some x → b ≠ a := fun {b x} e z => by rw [z, ha] at e; cases e
    cases u with
    | v d => exact r
    | o xs => obtain ⟨b, ws, rfl, k1, k2, k3, k4, k5⟩ := r; exact ⟨b, ws, rfl, by rw [upd_ne (nb k1)]; exact k1, k2, k3, k4, by show upd Z.P a (.lst vs) b = none; rw [upd_ne (nb k1)]; exact k5⟩
    | r xs => obtain ⟨b, ws, rfl, k1, k2, k3, k4, k5⟩ := r; exact ⟨b, ws, rfl, by rw [upd_ne (nb k1)]; exact k1, k2, k3, k4, by show upd Z.P a (.lst vs) b = none; rw [upd_ne (nb k1)]; exact k5⟩
    | s ns => obtain ⟨b, rfl, k1, k2⟩ := r; exact ⟨b, rfl, Same.seq (same_upd (S.noneP ha)) k1, k2⟩
    | x c fs => exact r
/-- the held list is changed -/
theorem SR.turn {a : Addr} {vs : List V} (S : SR K (ZP Z a vs) F H σ env) (hZ : Z.F a = none) (hN : Z.N a) (ws : List V) : SR K (ZP Z a ws) F (upd H a (.lst ws)) σ env := by
  have hF : F a = none := by
    cases q : F a with
    | none => rfl
    | some x =>
      rcases S.new a (by rw [q]; simp) with z | ⟨_, z⟩
      · exact absurd hZ z
      · have z : upd Z.P a (.lst vs) a = none := z
        rw [upd_same] at z; cases z
  have pz : ∀ {b : Addr}, (ZP Z a vs).P b = none → b ≠ a := fun {b} e z => by
    have e : upd Z.P a (.lst vs) b = none := e
    rw [z, upd_same] at e; cases e
  have pn : ∀ {b : Addr}, b ≠ a → (ZP Z a ws).P b = (ZP Z a vs).P b := fun {b} hb => by
    show upd Z.P a (.lst ws) b = upd Z.P a (.lst vs) b
    rw [upd_ne hb, upd_ne hb]
  refine ⟨S.len, same_updF S.le hF, fun b x e => ?_, S.base, fun b h => ?_, fun b h => ?_, fun i u g => ?_, S.dis, S.ref⟩
  · by_cases hb : b = a
    · subst hb
      have e : upd Z.P b (.lst ws) b = some x := e
      rw [upd_same] at e ⊢; exact e
    · rw [pn hb] at e; rw [upd_ne hb]; exact S.keep _ _ e
  · have hb : b ≠ a := fun z => h (by rw [z]; exact hF)
    rcases S.new b h with z | z
    · exact .inl z
    · exact .inr ⟨z.1, by rw [pn hb]; exact z.2⟩
  · by_cases hb : b = a
    · subst hb; rw [upd_same] at h; cases h
    · rw [upd_ne hb] at h; exact S.dom b h
  · obtain ⟨v, e, r⟩ := S.slot i u g
    refine ⟨v, e, ?_⟩
    cases u with
    | v d => exact r
    | o xs => obtain ⟨b, us, rfl, k1, k2, k3, k4, k5⟩ := r; exact ⟨b, us, rfl, by rw [upd_ne (pz k5)]; exact k1, k2, k3, k4, by rw [pn (pz k5)]; exact k5⟩
    | r xs => obtain ⟨b, us, rfl, k1, k2, k3, k4, k5⟩ := r; exact ⟨b, us, rfl, by rw [upd_ne (pz k5)]; exact k1, k2, k3, k4, by rw [pn (pz k5)]; exact k5⟩
    | s ns =>
      obtain ⟨b, rfl, k1, k2, k3⟩ := r
      refine ⟨b, rfl, ?_, k2, k3⟩
      by_cases hb : b = a
      · subst hb; exact Same.seq (fun _ _ z => by cases z) (k3 hN)
      · rcases k1 with (h | ⟨o, h⟩) | h
        · exact .inl (.inl (by rw [pn hb]; exact h))
        · exact .inl (.inr ⟨o, by rw [pn hb]; exact h⟩)
        · exact .inr h
    | x c fs => exact r
theorem SR.out {a : Addr} {vs : List V} (S : SR K (ZP Z a vs) F H σ env) (hZ : Z.F a = none) (hP : Z.P a = none) (hN : Z.N a) : SR K Z F H σ env ∧ H a = some (.lst vs) ∧ F a = none ∧ ∀ i, Own env i → σ[i]? ≠ some (some (.ref a)) := by
  have hF : F a = none := by
    cases q : F a with
    | none => rfl
    | some x =>
      rcases S.new a (by rw [q]; simp) with z | ⟨_, z⟩
      · exact absurd hZ z
      · have z : upd Z.P a (.lst vs) a = none := z
        rw [upd_same] at z; cases z
  have pz : ∀ {b : Addr}, (ZP Z a vs).P b = none → b ≠ a ∧ Z.P b = none := fun {b} e => by
    have e : upd Z.P a (.lst vs) b = none := e
    have hb : b ≠ a := fun z => by rw [z, upd_same] at e; cases e
    exact ⟨hb, by rw [upd_ne hb] at e; exact e⟩
  have up : Same Z.P (ZP Z a vs).P := same_upd hP
  refine ⟨⟨S.len, S.le, fun b x e => S.keep _ _ (up _ _ e), S.base, fun b h => ?_, S.dom, fun i u g => ?_, S.dis, S.ref⟩, S.keep _ _ upd_same, hF, fun i o z => ?_⟩
  · rcases S.new b h with z | z
    · exact .inl z
    · exact .inr ⟨z.1, (pz z.2).2⟩
  · obtain ⟨v, e, r⟩ := S.slot i u g
    refine ⟨v, e, ?_⟩
    cases u with
    | v d => exact r
    | o xs => obtain ⟨b, us, rfl, k1, k2, k3, k4, k5⟩ := r; exact ⟨b, us, rfl, k1, k2, k3, k4, (pz k5).2⟩
    | r xs => obtain ⟨b, us, rfl, k1, k2, k3, k4, k5⟩ := r; exact ⟨b, us, rfl, k1, k2, k3, k4, (pz k5).2⟩
    | s ns =>
      obtain ⟨b, rfl, k1, k2, k3⟩ := r
      refine ⟨b, rfl, ?_, k2, k3⟩
      by_cases hb : b = a
      · subst hb; exact Same.seq (fun _ _ z => by cases z) (k3 hN)
      · have pn : (ZP Z a vs).P b = Z.P b := upd_ne hb
        rcases k1 with (h | ⟨o, h⟩) | h
        · exact .inl (.inl (by rw [pn] at h; exact h))
        · exact .inl (.inr ⟨o, by rw [pn] at h; exact h⟩)
        · exact .inr h
    | x c fs => exact r
  · obtain ⟨b, ws, xs, e1, _, _, _, e2, _⟩ := S.own o
    rw [z] at e1; cases e1
    exact (pz e2).1 rfl
/-- the forgotten slots are there again -/
theorem SR.back {F1 H1 : Hp} {env1 e : Env} {own : List Nat} (S : SR K Z F H (wipe σ own) e) (S1 : SR K Z F1 H1 σ env1) (s : Same F1 F) (p : plainAll env1 own) : SR K Z F H σ (puts env1 own e) := by
  have hl : σ.length = e.length := by rw [S.len, wipe_length]
  have plain : ∀ {i u}, i ∈ own → get env1 i = some u → ∃ d, u = .v d := fun {i u} hi g => plain_at p hi g
  have nown : ∀ {i}, Own (puts env1 own e) i → i ∉ own ∧ Own e i := fun {i} o => own_puts p o
  refine ⟨by rw [puts_length]; exact hl.symm, S.le, S.keep, S.base, S.new, S.dom, fun i u g => ?_, fun i j a ne oi oj e1 e2 => ?_, fun i a hi => ?_⟩
  · by_cases hi : i ∈ own
    · have hlt : i < e.length := by have := get_some_lt g; rwa [puts_length] at this
      rw [puts_in hi hlt] at g
      obtain ⟨d, rfl⟩ := plain hi g
      obtain ⟨v, e1, r⟩ := S1.slot i _ g
      exact ⟨v, e1, Rep.mono s r⟩
    · rw [puts_out hi] at g
      obtain ⟨v, e1, r⟩ := S.slot i u g
      rw [wipe_out hi] at e1
      exact ⟨v, e1, r⟩
  · obtain ⟨hi, oi⟩ := nown oi
    obtain ⟨hj, oj⟩ := nown oj
    exact S.dis i j a ne oi oj (by rw [wipe_out hi]; exact e1) (by rw [wipe_out hj]; exact e2)
  · obtain ⟨⟨xs, g⟩, e1⟩ := S.ref i a hi
    have ni : i ∉ own := fun m => by
      have z := S1.plain (plainAll_at p i m)
      rw [hi] at z; cases z
    rw [wipe_out ni] at e1
    exact ⟨⟨xs, by rw [puts_out ni]; exact g⟩, e1⟩
end
section
variable {Γ : Nat → Option FS} {CT : CTab} {X : Cx} {W : WX} {cc : CC} {Z : Zt} {n : Nat}
theorem ok_blk (ok : Ok Γ CT X W cc) (s : Shared) (H : Hp) (scope : Scope) (C : Addr) (cl : List (Str × Addr)) (fp : List Addr) : Ok Γ CT (X.blk s H scope (compEnvC scope cl C X.env) fp) (fun _ _ _ _ => False) (blkCC cc scope) where
  n := ok.n
  nd := ok.nd
  sc := by show relS scope X.env.scope = relS scope cc.sc; rw [ok.sc]
  st := fun x h => by
    have e : (X.blk s H scope (compEnvC scope cl C X.env) fp).env.scope = relS scope cc.sc := by show relS scope X.env.scope = relS scope cc.sc; rw [ok.sc]
    have h : (decide ((relS scope cc.sc).names.lookup x = some .local) || (decide ((relS scope cc.sc).names.lookup x = some .cell) && decide (scope.names.lookup x = some .cell))) = true := h
    rcases Bool.or_eq_true_iff.mp h with h | h
    · have h1 := of_decide_eq_true h
      exact ⟨.inl (by rw [e]; exact h1), .inr (by rw [e]; exact h1)⟩
    · obtain ⟨h1, h2⟩ := and_split h
      have h1 := of_decide_eq_true h1
      have h2 := of_decide_eq_true h2
      exact ⟨.inr (by rw [e]; exact h1), .inl (by show (scope.names.lookup x == some .cell) = true; rw [h2]; rfl)⟩
  calm := ok.calm
  tk := fun _ _ x => by
    obtain ⟨_, _, _, _, _, _, _, _, _, _, _, _, _, _, _, _, z⟩ := x
    exact z.elim
  po := PassesOwn.never
  un := ok.un
  blt := ok.blt
  gcd := ok.gcd
  lcm := ok.lcm
  cons := ok.cons
  fns := fun f S h => ⟨(ok.fns f S h).ex⟩
  full := ok.full
  frm := fun z => by cases z
  xc := ok.xc
  cat := ok.cat
  exs := ok.exs
theorem ownL_snd : ∀ (N : List Str) (own : List Nat), (ownL N own).map (·.2) = own
  | _, [] => rfl
  | N, i :: is => by show i :: (ownL N is).map (·.2) = _; rw [ownL_snd N is]
theorem PX.never {CT : CTab} {K : PySem.W.Frag} {Z : Zt} {σ : L2.St} {F : Hp} {W : WX} : ∀ x e, (fun (_ : EX) (_ : Env) => False) x e → PX CT K W Z σ F x e := fun _ _ h => h.elim
theorem snd_ifs (IHs : ∀ k, k ≤ n → SoundE Γ CT k) (ok : Ok Γ CT X W cc) {ms : List M} {es : List Expr} (h : chkF (chkT (chkE n cc) n) ms es = true) :
    PTs X es (fun σ H Q => ∃ Z F env, SR X.K Z F H σ env ∧ wpTs (wpT (wpE Γ n) n) ms env (PX CT X.K W Z σ F) (PB X.K Z σ F Q)) := by
  match ms, es, h with
  | [], [], _ => exact ⟨fun pins s σ H Q I ⟨Z, F, env, S, q⟩ => pts_nil.run pins s σ H Q I (q F H same_refl S)⟩
  | [c], [d], h => exact ⟨fun pins s σ H Q I ⟨Z, F, env, S, q⟩ => (pts_one (snd_T IHs ok Z (k := n) h)).run pins s σ H Q I ⟨F, env, S, q⟩⟩
  | [], _ :: _, h => cases h
  | [_], [], h => cases h
  | [_], _ :: _ :: _, h => cases h
  | _ :: _ :: _, _, h => cases h
theorem comp_parts (IHs : ∀ k, k ≤ n → SoundE Γ CT k) (ok : Ok Γ CT X W cc) (Z : Zt) {el : M} {t : T} {it : M} {ifs : List M} {own : List Nat} {elt : Expr} {gs : List Comprehension} {scope : Scope} {p : Pos} (h : chkE (n + 1) cc (.comp el t it ifs own) (.ListComp elt gs scope p) = true) :
    ∃ tg iter cifs, gs = [⟨tg, iter, cifs, 0⟩] ∧ ∃ (wi : TI) (g : TG) (tt : TT) (te : TE), PI X tg iter wi ∧ BlkOk X.N X.env.scope scope (ownL cc.N own) ∧
      (∀ (s : Shared) (H : Hp) (C : Addr) (cl : List (Str × Addr)) (fp : List Addr), PG (X.blk s H scope (compEnvC scope cl C X.env) fp) tg g) ∧ (∀ (s : Shared) (H : Hp) (C : Addr) (cl : List (Str × Addr)) (fp : List Addr), PTs (X.blk s H scope (compEnvC scope cl C X.env) fp) cifs tt) ∧
      (∀ (s : Shared) (H : Hp) (C : Addr) (cl : List (Str × Addr)) (fp : List Addr), PE (X.blk s H scope (compEnvC scope cl C X.env) fp) elt te) ∧ notSet iter = true ∧
      ∀ σ H Q, tE Γ CT X.K W Z (n + 1) (.comp el t it ifs own) σ H Q → tLc wi g tt te ((ownL cc.N own).map (·.2)) σ H Q := by
  have IH := IHs n (Nat.le_refl n)
  match gs, h with
  | [⟨tg, iter, cifs, ia⟩], h =>
    obtain ⟨h, h7⟩ := and_split (show (decide (ia = 0) && chkI cc (chkE n cc) tg it iter && blkC cc.N cc.sc scope (ownL cc.N own) && chkG (blkCC cc scope) n t tg && (slotsT n t).all (own.contains ·) && chkF (chkT (chkE n (blkCC cc scope)) n) ifs cifs && chkE n (blkCC cc scope) el elt) = true from h)
    obtain ⟨h, h6⟩ := and_split h
    obtain ⟨h, h5⟩ := and_split h
    obtain ⟨h, h4⟩ := and_split h
    obtain ⟨h, h3⟩ := and_split h
    obtain ⟨h1, h2⟩ := and_split h
    have e1 := of_decide_eq_true h1
    subst e1
    obtain ⟨pi, ns⟩ := snd_I (tg := tg) IH ok Z h2
    have bo : BlkOk X.N X.env.scope scope (ownL cc.N own) := by rw [ok.n, ok.sc]; exact blkOk_by h3
    have slots : ∀ i ∈ slotsT n t, i ∈ own := fun i hi => by
      have := List.all_eq_true.mp h5 i hi
      simpa using this
    refine ⟨tg, iter, cifs, rfl, iG Γ CT X.K W Z n it, fun v σ H Q => ∃ Z, gG X.K Z n t v σ H Q, fun σ H Q => ∃ Z F env, SR X.K Z F H σ env ∧ wpTs (wpT (wpE Γ n) n) ifs env (PX CT X.K (fun _ _ _ _ => False) Z σ F) (PB X.K Z σ F Q),
      fun σ H Q => ∃ Z, tE Γ CT X.K (fun _ _ _ _ => False) Z n el σ H Q, pi, bo, fun s H C cl fp => ?_, fun s H C cl fp => ?_, fun s H C cl fp => ?_, ns, fun σ H Q ⟨F0, env0, S0, q0⟩ => ?_⟩
    · exact ⟨fun pins s' σ H' v u Q I r ⟨Z, q⟩ => (snd_G (ok_blk ok s H scope C cl fp) Z h4).run pins s' σ H' v u Q I r q⟩
    · exact snd_ifs IHs (ok_blk ok s H scope C cl fp) h6
    · exact ⟨fun pins s' σ H' Q I ⟨Z, q⟩ => (IH _ _ _ (ok_blk ok s H scope C cl fp) Z el elt h7).run pins s' σ H' Q I q⟩
    · have M := wpE_mono Γ n
      rw [wpE_succ] at q0
      unfold wpE1 at q0
      dsimp only at q0
      refine ⟨F0, env0, S0, wpI_mono M q0 (fun _ _ z => z) fun ds env1 q1 J F1 H1 s1 S1 wk => fun A hA => ?_⟩
      obtain ⟨⟨pl, dl⟩, q2⟩ := ckP_get q1
      unfold compP at q2
      rw [ownL_snd]
      have fD := S1.noneF hA
      have zF : Z.F A = none := GM.noneF S1.base fD
      have zP : Z.P A = none := S1.noneP hA
      have zN : Z.N A := S1.dom A hA
      have xo : ∀ i ∈ own, Z.X i = none := fun i hi => S1.plain (plainAll_at pl i hi)
      let step : D → Env → (List D → Env → Prop) → Prop := fun x e nx => bindT n t x e fun e1 => wpTs (wpT (wpE Γ n) n) ifs e1 (fun _ _ => False) fun b e2 => brP b (wpE Γ n el e2 (fun _ _ => False) fun u e3 => optP u.fz fun d => nx [d] (wipes own e3)) (nx [] (wipes own e2))
      let Inv' : Nat → Nat → Hp → Prop := fun i m H => m = ds.length - i ∧ i ≤ ds.length ∧ ∃ F e acc accV, SR X.K (ZP Z A accV) F H (wipe σ own) e ∧ Same F1 F ∧ Reps F accV acc ∧ acc.length ≤ i ∧ compL step (ds.drop i) e acc fun acc e => PV X.K Z σ F0 Q (.o acc) (puts env1 own e)
      refine ⟨Inv', ⟨_, rfl, Nat.zero_le _, F1, wipes own env1, [], [], ?_, same_refl, .nil, Nat.le_refl _, q2⟩, ?_⟩
      · exact SR.wipes (Z := ZP Z A []) (S1.lay hA []) xo
      · rintro i m H2 ⟨rfl, hi, F2, e2, acc, accV, S2, s2, ra, al, q3⟩
        by_cases hlt : i < ds.length
        · refine .inr ⟨((wk F2 H2 s2 S2.le).1 i hlt).1, Inv' (i + 1) (ds.length - (i + 1)), fun H' z => ⟨_, by omega, z⟩, fun x H3 y => ?_⟩
          obtain ⟨F3, d, g3, hd, rd⟩ := ((wk F2 H2 s2 S2.le).1 i hlt).2 x H3 y
          have hd' : ds.drop i = d :: ds.drop (i + 1) := by
            have e := List.getElem?_eq_some_iff.mp hd
            obtain ⟨h1, h2⟩ := e
            rw [List.drop_eq_getElem_cons h1, h2]
          rw [hd'] at q3
          have q4 : step d e2 fun ds' e' => compL step (ds.drop (i + 1)) e' (acc ++ ds') fun acc e => PV X.K Z σ F0 Q (.o acc) (puts env1 own e) := q3
          have S3 := S2.grow g3
          refine ⟨ZP Z A accV, F3, e2, d, S3, rd, bindT_mono q4 fun e4 q5 σ4 S4 a4 => ⟨wipe_agree a4 slots, ZP Z A accV, F3, e4, S4, ?_⟩⟩
          have wa : wipe σ4 own = wipe σ own := wipe_agree a4 slots
          refine wpTs_mono (tst := wpT (wpE Γ n) n) (fun m env Qx Qx' Q Q' h fx f => wpT_mono M h fx f) q5 PX.never ?_
          intro b e5 q6 F5 H5 s5 S5
          obtain ⟨qt, qf⟩ := brP_get q6
          cases b with
          | false =>
            rw [if_neg Bool.false_ne_true]
            have S6 := S5.wipes (is := own) xo
            rw [wa] at S6
            refine ⟨rfl, hlt, F5, wipes own e5, acc, accV, S6, s2.trans (g3.f.trans s5), ra.mono (g3.f.trans s5), Nat.le_succ_of_le al, ?_⟩
            have q9 := qf rfl
            dsimp only at q9
            rw [List.append_nil] at q9
            exact q9
          | true =>
            rw [if_pos rfl]
            refine ⟨ZP Z A accV, F5, e5, S5, M _ _ _ _ _ _ (qt rfl) PX.never fun u e6 q7 v F6 H6 s6 S6 r6 => ?_⟩
            obtain ⟨dv, ev, q8⟩ := optP_get q7
            obtain ⟨F7, s7, S7, r7⟩ := RU.fz S6 r6 ev
            have sall := g3.f.trans (s5.trans (s6.trans s7))
            have rl := ra.length
            have al2 : acc.length < LIM := by omega
            refine ⟨accV, S7.keep _ _ upd_same, by rw [rl, ← limLine]; exact al2, rfl, hlt, F7, wipes own e6, acc ++ [dv], accV ++ [v], ?_, s2.trans sall, (ra.mono sall).append (.one r7), by simp; omega, q8⟩
            have S8 := (S7.turn zF zN (accV ++ [v])).wipes (is := own) xo
            rw [wa] at S8
            exact S8
        · refine .inl ⟨(wk F2 H2 s2 S2.le).2 i (by omega), ?_⟩
          rw [List.drop_eq_nil_of_le (by omega)] at q3
          have q4 : PV X.K Z σ F0 Q (.o acc) (puts env1 own e2) := q3
          obtain ⟨S3, hD2, fD2, nD⟩ := S2.out zF zP zN
          have S4 := S3.back S1 s2 pl
          refine q4 (.ref A) F2 H2 (s1.trans s2) S4 ⟨A, accV, rfl, hD2, fD2, ra, zN, zP, fun j oj z => ?_⟩
          obtain ⟨nj, oj⟩ := own_puts pl oj
          exact nD j oj (by rw [wipe_out nj]; exact z)
  | [], h => cases h
  | ⟨_, _, _, _⟩ :: _ :: _, h => cases h
theorem snd_comp (IHs : ∀ k, k ≤ n → SoundE Γ CT k) (ok : Ok Γ CT X W cc) (Z : Zt) {el : M} {t : T} {it : M} {ifs : List M} {own : List Nat} {e : Expr} (h : chkE (n + 1) cc (.comp el t it ifs own) e = true) : PE X e (tE Γ CT X.K W Z (n + 1) (.comp el t it ifs own)) := by
  cases e with
  | ListComp elt gs scope p =>
    obtain ⟨tg, iter, cifs, rfl, wi, g, tt, te, h1, h2, h3, h4, h5, h6, h7⟩ := comp_parts IHs ok Z h
    exact PE.imp (pe_lc ok.calm ok.nd h1 h2 h3 h4 h5 (fold_ok h6)) h7
  | _ => cases h
theorem chkI_ns {cc : CC} {rec : M → Expr → Bool} {tg : Expr} {m : M} {e : Expr} (h : chkI cc rec tg m e = true) : notSet e = true := by
  cases e with
  | Set _ _ => cases m <;> first | cases h | exact (and_split h).2
  | _ => rfl
theorem wipe_wipe {σ : L2.St} {is own : List Nat} (h : ∀ i ∈ is, i ∈ own) : wipe (wipe σ is) own = wipe σ own := by
  apply List.ext_getElem?
  intro i
  by_cases hv : i ∈ own
  · by_cases hi : i < σ.length
    · rw [wipe_in (by rw [wipe_length]; exact hi) hv, wipe_in hi hv]
    · rw [List.getElem?_eq_none (by rw [wipe_length, wipe_length]; omega), List.getElem?_eq_none (by rw [wipe_length]; omega)]
  · rw [wipe_out hv, wipe_out hv, wipe_out fun z => hv (h i z)]
theorem comp2_parts (IHs : ∀ k, k ≤ n → SoundE Γ CT k) (ok : Ok Γ CT X W cc) (Z : Zt) {el : M} {t t2 : T} {it it2 : M} {ifs ifs2 : List M} {own : List Nat} {elt : Expr} {gs : List Comprehension} {scope : Scope} {p : Pos} (h : chkE (n + 1) cc (.comp2 el t it ifs t2 it2 ifs2 own) (.ListComp elt gs scope p) = true) :
    ∃ tg iter cifs tg1 iter1 cifs1, gs = [⟨tg, iter, cifs, 0⟩, ⟨tg1, iter1, cifs1, 0⟩] ∧ ∃ (wi : TI) (g : TG) (tt : TT) (wi1 : TI) (g1 : TG) (tt1 : TT) (te : TE), PI X tg iter wi ∧ BlkOk X.N X.env.scope scope (ownL cc.N own) ∧ (∀ i ∈ slotsT n t2, i ∈ (ownL cc.N own).map (·.2)) ∧
      (∀ (s : Shared) (H : Hp) (C : Addr) (cl : List (Str × Addr)) (fp : List Addr), PG (X.blk s H scope (compEnvC scope cl C X.env) fp) tg g) ∧ (∀ (s : Shared) (H : Hp) (C : Addr) (cl : List (Str × Addr)) (fp : List Addr), PTs (X.blk s H scope (compEnvC scope cl C X.env) fp) cifs tt) ∧
      (∀ (s : Shared) (H : Hp) (C : Addr) (cl : List (Str × Addr)) (fp : List Addr), PI (X.blk s H scope (compEnvC scope cl C X.env) fp) tg1 iter1 wi1) ∧
      (∀ (s : Shared) (H : Hp) (C : Addr) (cl : List (Str × Addr)) (fp : List Addr), PG (X.blk s H scope (compEnvC scope cl C X.env) fp) tg1 g1) ∧ (∀ (s : Shared) (H : Hp) (C : Addr) (cl : List (Str × Addr)) (fp : List Addr), PTs (X.blk s H scope (compEnvC scope cl C X.env) fp) cifs1 tt1) ∧
      (∀ (s : Shared) (H : Hp) (C : Addr) (cl : List (Str × Addr)) (fp : List Addr), PE (X.blk s H scope (compEnvC scope cl C X.env) fp) elt te) ∧ notSet iter = true ∧ notSet iter1 = true ∧
      ∀ σ H Q, tE Γ CT X.K W Z (n + 1) (.comp2 el t it ifs t2 it2 ifs2 own) σ H Q → tLc2 wi g tt wi1 g1 tt1 te ((ownL cc.N own).map (·.2)) (slotsT n t2) σ H Q := by
  have IH := IHs n (Nat.le_refl n)
  match gs, h with
  | [⟨tg, iter, cifs, ia⟩, ⟨tg1, iter1, cifs1, ia1⟩], h =>
    obtain ⟨h, h12⟩ := and_split (show (decide (ia = 0) && decide (ia1 = 0) && chkI cc (chkE n cc) tg it iter && blkC cc.N cc.sc scope (ownL cc.N own) && chkG (blkCC cc scope) n t tg && (slotsT n t).all (own.contains ·) &&
          chkF (chkT (chkE n (blkCC cc scope)) n) ifs cifs && chkI (blkCC cc scope) (chkE n (blkCC cc scope)) tg1 it2 iter1 && chkG (blkCC cc scope) n t2 tg1 && (slotsT n t2).all (own.contains ·) &&
          chkF (chkT (chkE n (blkCC cc scope)) n) ifs2 cifs1 && chkE n (blkCC cc scope) el elt) = true from h)
    obtain ⟨h, h11⟩ := and_split h
    obtain ⟨h, h10⟩ := and_split h
    obtain ⟨h, h9⟩ := and_split h
    obtain ⟨h, h8⟩ := and_split h
    obtain ⟨h, h7⟩ := and_split h
    obtain ⟨h, h6⟩ := and_split h
    obtain ⟨h, h5⟩ := and_split h
    obtain ⟨h, h4⟩ := and_split h
    obtain ⟨h, h3⟩ := and_split h
    obtain ⟨h1, h2⟩ := and_split h
    have e1 := of_decide_eq_true h1
    have e2 := of_decide_eq_true h2
    subst e1
    subst e2
    obtain ⟨pi, ns⟩ := snd_I (tg := tg) IH ok Z h3
    have bo : BlkOk X.N X.env.scope scope (ownL cc.N own) := by rw [ok.n, ok.sc]; exact blkOk_by h4
    have slots : ∀ i ∈ slotsT n t, i ∈ own := fun i hi => by
      have := List.all_eq_true.mp h6 i hi
      simpa using this
    have slots2 : ∀ i ∈ slotsT n t2, i ∈ own := fun i hi => by
      have := List.all_eq_true.mp h10 i hi
      simpa using this
    have ns2 : notSet iter1 = true := chkI_ns h8
    refine ⟨tg, iter, cifs, tg1, iter1, cifs1, rfl, iG Γ CT X.K W Z n it, fun v σ H Q => ∃ Z, gG X.K Z n t v σ H Q,
      fun σ H Q => ∃ Z F env, SR X.K Z F H σ env ∧ wpTs (wpT (wpE Γ n) n) ifs env (PX CT X.K (fun _ _ _ _ => False) Z σ F) (PB X.K Z σ F Q),
      fun σ H R => ∃ Z, iG Γ CT X.K (fun _ _ _ _ => False) Z n it2 σ H R, fun v σ H Q => ∃ Z, gG X.K Z n t2 v σ H Q,
      fun σ H Q => ∃ Z F env, SR X.K Z F H σ env ∧ wpTs (wpT (wpE Γ n) n) ifs2 env (PX CT X.K (fun _ _ _ _ => False) Z σ F) (PB X.K Z σ F Q),
      fun σ H Q => ∃ Z, tE Γ CT X.K (fun _ _ _ _ => False) Z n el σ H Q, pi, bo, fun i hi => by rw [ownL_snd]; exact slots2 i hi,
      fun s H C cl fp => ⟨fun pins s' σ H' v u Q I r ⟨Z, q⟩ => (snd_G (ok_blk ok s H scope C cl fp) Z h5).run pins s' σ H' v u Q I r q⟩,
      fun s H C cl fp => snd_ifs IHs (ok_blk ok s H scope C cl fp) h7,
      fun s H C cl fp => ⟨fun pins s' σ H' R I ⟨Z, q⟩ => (snd_I (tg := tg1) IH (ok_blk ok s H scope C cl fp) Z h8).1.run pins s' σ H' R I q⟩,
      fun s H C cl fp => ⟨fun pins s' σ H' v u Q I r ⟨Z, q⟩ => (snd_G (ok_blk ok s H scope C cl fp) Z h9).run pins s' σ H' v u Q I r q⟩,
      fun s H C cl fp => snd_ifs IHs (ok_blk ok s H scope C cl fp) h11,
      fun s H C cl fp => ⟨fun pins s' σ H' Q I ⟨Z, q⟩ => (IH _ _ _ (ok_blk ok s H scope C cl fp) Z el elt h12).run pins s' σ H' Q I q⟩,
      ns, ns2, fun σ H Q ⟨F0, env0, S0, q0⟩ => ?_⟩
    have M := wpE_mono Γ n
    rw [wpE_succ] at q0
    unfold wpE1 at q0
    dsimp only at q0
    refine ⟨F0, env0, S0, wpI_mono M q0 (fun _ _ z => z) fun ds env1 q1 J F1 H1 s1 S1 wk => fun A hA => ?_⟩
    obtain ⟨⟨pl, dl⟩, q2⟩ := ckP_get q1
    unfold compP at q2
    rw [ownL_snd]
    have fD := S1.noneF hA
    have zF : Z.F A = none := GM.noneF S1.base fD
    have zP : Z.P A = none := S1.noneP hA
    have zN : Z.N A := S1.dom A hA
    have xo : ∀ i ∈ own, Z.X i = none := fun i hi => S1.plain (plainAll_at pl i hi)
    let own2 := slotsT n t2
    have xo2 : ∀ i ∈ own2, Z.X i = none := fun i hi => xo i (slots2 i hi)
    let istep : D → Env → (List D → Env → Prop) → Prop := fun y e' nx' => bindT n t2 y e' fun e4 => wpTs (wpT (wpE Γ n) n) ifs2 e4 (fun _ _ => False) fun b2 e5 => brP b2 (wpE Γ n el e5 (fun _ _ => False) fun u e6 => optP u.fz fun d => nx' [d] (wipes own2 e6)) (nx' [] (wipes own2 e5))
    let step : D → Env → (List D → Env → Prop) → Prop := fun x e nx => bindT n t x e fun e1 => wpTs (wpT (wpE Γ n) n) ifs e1 (fun _ _ => False) fun b e2 => brP b (wpI (wpE Γ n) it2 e2 (fun _ _ => False) fun ds2 e3 => ckP (ds2.length ≤ 4096) (compL istep ds2 (wipes own2 e3) [] fun acc2 e7 => nx acc2 (wipes own e7))) (nx [] (wipes own e2))
    let Inv' : Nat → Nat → Hp → Prop := fun i m H => m = ds.length - i ∧ i ≤ ds.length ∧ ∃ F e acc accV, SR X.K (ZP Z A accV) F H (wipe σ own) e ∧ Same F1 F ∧ Reps F accV acc ∧ acc.length ≤ i * 4096 ∧ compL step (ds.drop i) e acc fun acc e => PV X.K Z σ F0 Q (.o acc) (puts env1 own e)
    refine ⟨Inv', ⟨_, rfl, Nat.zero_le _, F1, wipes own env1, [], [], ?_, same_refl, .nil, Nat.zero_le _, q2⟩, ?_⟩
    · exact SR.wipes (Z := ZP Z A []) (S1.lay hA []) xo
    · rintro i m H2 ⟨rfl, hi, F2, e2, acc, accV, S2, s2, ra, al, q3⟩
      by_cases hlt : i < ds.length
      · refine .inr ⟨((wk F2 H2 s2 S2.le).1 i hlt).1, Inv' (i + 1) (ds.length - (i + 1)), fun H' z => ⟨_, by omega, z⟩, fun x H3 y => ?_⟩
        obtain ⟨F3, d, g3, hd, rd⟩ := ((wk F2 H2 s2 S2.le).1 i hlt).2 x H3 y
        have hd' : ds.drop i = d :: ds.drop (i + 1) := by
          have e := List.getElem?_eq_some_iff.mp hd
          obtain ⟨h1, h2⟩ := e
          rw [List.drop_eq_getElem_cons h1, h2]
        rw [hd'] at q3
        have q4 : step d e2 fun ds' e' => compL step (ds.drop (i + 1)) e' (acc ++ ds') fun acc e => PV X.K Z σ F0 Q (.o acc) (puts env1 own e) := q3
        have S3 := S2.grow g3
        refine ⟨ZP Z A accV, F3, e2, d, S3, rd, bindT_mono q4 fun e4 q5 σ4 S4 a4 => ⟨wipe_agree a4 slots, ZP Z A accV, F3, e4, S4, ?_⟩⟩
        have wa : wipe σ4 own = wipe σ own := wipe_agree a4 slots
        refine wpTs_mono (tst := wpT (wpE Γ n) n) (fun m env Qx Qx' Q Q' h fx f => wpT_mono M h fx f) q5 PX.never ?_
        intro b e5 q6 F5 H5 s5 S5
        obtain ⟨qt, qf⟩ := brP_get q6
        cases b with
        | false =>
          rw [if_neg Bool.false_ne_true]
          have S6 := S5.wipes (is := own) xo
          rw [wa] at S6
          refine ⟨rfl, hlt, F5, wipes own e5, acc, accV, S6, s2.trans (g3.f.trans s5), ra.mono (g3.f.trans s5), Nat.le_trans al (Nat.mul_le_mul_right _ (Nat.le_succ i)), ?_⟩
          have q9 := qf rfl
          dsimp only at q9
          rw [List.append_nil] at q9
          exact q9
        | true =>
          rw [if_pos rfl]
          refine ⟨ZP Z A accV, F5, e5, S5, wpI_mono M (qt rfl) PX.never fun ds2 e6 q7 J1 F6 H6 s6 S6 wk1 => ?_⟩
          obtain ⟨dl2, q8⟩ := ckP_get q7
          have s26 : Same F2 F6 := g3.f.trans (s5.trans s6)
          have ra6 : Reps F6 accV acc := ra.mono s26
          let Inv2 : Nat → Nat → Hp → Prop := fun j k H => k = ds2.length - j ∧ j ≤ ds2.length ∧ ∃ F e acc2 accV2, SR X.K (ZP Z A (accV ++ accV2)) F H (wipe σ4 own2) e ∧ Same F6 F ∧ Reps F accV2 acc2 ∧ acc2.length ≤ j ∧
            compL istep (ds2.drop j) e acc2 fun acc2 e7 => compL step (ds.drop (i + 1)) (wipes own e7) (acc ++ acc2) fun acc e => PV X.K Z σ F0 Q (.o acc) (puts env1 own e)
          refine ⟨Inv2, ⟨_, rfl, Nat.zero_le _, F6, wipes own2 e6, [], [], ?_, same_refl, .nil, Nat.le_refl _, q8⟩, ?_⟩
          · rw [List.append_nil]
            exact S6.wipes xo2
          · rintro j k H7 ⟨rfl, hj, F7, e7, acc2, accV2, S7, s7, ra2, al2, q9⟩
            by_cases hlt2 : j < ds2.length
            · refine .inr ⟨((wk1 F7 H7 s7 S7.le).1 j hlt2).1, Inv2 (j + 1) (ds2.length - (j + 1)), fun H' z => ⟨_, by omega, z⟩, fun x H8 y => ?_⟩
              obtain ⟨F8, d2, g8, hd2, rd2⟩ := ((wk1 F7 H7 s7 S7.le).1 j hlt2).2 x H8 y
              have hd2' : ds2.drop j = d2 :: ds2.drop (j + 1) := by
                have e := List.getElem?_eq_some_iff.mp hd2
                obtain ⟨h1, h2⟩ := e
                rw [List.drop_eq_getElem_cons h1, h2]
              rw [hd2'] at q9
              have q10 : istep d2 e7 fun ds' e' => compL istep (ds2.drop (j + 1)) e' (acc2 ++ ds') fun acc2 e7 => compL step (ds.drop (i + 1)) (wipes own e7) (acc ++ acc2) fun acc e => PV X.K Z σ F0 Q (.o acc) (puts env1 own e) := q9
              have S8 := S7.grow g8
              refine ⟨ZP Z A (accV ++ accV2), F8, e7, d2, S8, rd2, bindT_mono q10 fun e9 q11 σ9 S9 a9 => ⟨wipe_agree a9 fun _ z => z, ZP Z A (accV ++ accV2), F8, e9, S9, ?_⟩⟩
              have wb : wipe σ9 own2 = wipe σ4 own2 := wipe_agree a9 fun _ z => z
              refine wpTs_mono (tst := wpT (wpE Γ n) n) (fun m env Qx Qx' Q Q' h fx f => wpT_mono M h fx f) q11 PX.never ?_
              intro b2 e10 q12 F10 H10 s10 S10
              obtain ⟨rt, rf⟩ := brP_get q12
              cases b2 with
              | false =>
                rw [if_neg Bool.false_ne_true]
                have S11 := S10.wipes (is := own2) xo2
                rw [wb] at S11
                refine ⟨rfl, hlt2, F10, wipes own2 e10, acc2, accV2, S11, s7.trans (g8.f.trans s10), ra2.mono (g8.f.trans s10), Nat.le_succ_of_le al2, ?_⟩
                have q13 := rf rfl
                dsimp only at q13
                rw [List.append_nil] at q13
                exact q13
              | true =>
                rw [if_pos rfl]
                refine ⟨ZP Z A (accV ++ accV2), F10, e10, S10, M _ _ _ _ _ _ (rt rfl) PX.never fun u e11 q13 v F11 H11 s11 S11 r11 => ?_⟩
                obtain ⟨dv, ev, q14⟩ := optP_get q13
                obtain ⟨F12, s12, S12, r12⟩ := RU.fz S11 r11 ev
                have sall := g8.f.trans (s10.trans (s11.trans s12))
                have rl := ra6.length
                have rl2 := ra2.length
                have alim : accV.length + accV2.length < LIM := by
                  rw [rl, rl2]
                  show _ < 16777216
                  have : i * 4096 ≤ 4095 * 4096 := Nat.mul_le_mul_right _ (by omega)
                  omega
                refine ⟨accV ++ accV2, S12.keep _ _ upd_same, by rw [List.length_append, ← limLine]; exact alim, rfl, hlt2, F12, wipes own2 e11, acc2 ++ [dv], accV2 ++ [v], ?_, s7.trans sall, (ra2.mono sall).append (.one r12), by simp; omega, q14⟩
                have S13 := (S12.turn zF zN ((accV ++ accV2) ++ [v])).wipes (is := own2) xo2
                rw [wb, List.append_assoc] at S13
                rw [← List.append_assoc] at S13 ⊢
                exact S13
            · refine .inl ⟨(wk1 F7 H7 s7 S7.le).2 j (by omega), ?_⟩
              rw [List.drop_eq_nil_of_le (by omega)] at q9
              have q10 : compL step (ds.drop (i + 1)) (wipes own e7) (acc ++ acc2) fun acc e => PV X.K Z σ F0 Q (.o acc) (puts env1 own e) := q9
              have S8 := S7.wipes (is := own) xo
              rw [wipe_wipe slots2, wa] at S8
              refine ⟨rfl, hlt, F7, wipes own e7, acc ++ acc2, accV ++ accV2, S8, s2.trans (s26.trans s7), (ra6.mono s7).append ra2, ?_, q10⟩
              rw [List.length_append, Nat.succ_mul]
              omega
      · refine .inl ⟨(wk F2 H2 s2 S2.le).2 i (by omega), ?_⟩
        rw [List.drop_eq_nil_of_le (by omega)] at q3
        have q4 : PV X.K Z σ F0 Q (.o acc) (puts env1 own e2) := q3
        obtain ⟨S3, hD2, fD2, nD⟩ := S2.out zF zP zN
        have S4 := S3.back S1 s2 pl
        refine q4 (.ref A) F2 H2 (s1.trans s2) S4 ⟨A, accV, rfl, hD2, fD2, ra, zN, zP, fun j oj z => ?_⟩
        obtain ⟨nj, oj⟩ := own_puts pl oj
        exact nD j oj (by rw [wipe_out nj]; exact z)
  | [], h => cases h
  | [⟨_, _, _, _⟩], h => cases h
  | ⟨_, _, _, _⟩ :: ⟨_, _, _, _⟩ :: _ :: _, h => cases h
theorem snd_comp2 (IHs : ∀ k, k ≤ n → SoundE Γ CT k) (ok : Ok Γ CT X W cc) (Z : Zt) {el : M} {t t2 : T} {it it2 : M} {ifs ifs2 : List M} {own : List Nat} {e : Expr} (h : chkE (n + 1) cc (.comp2 el t it ifs t2 it2 ifs2 own) e = true) :
    PE X e (tE Γ CT X.K W Z (n + 1) (.comp2 el t it ifs t2 it2 ifs2 own)) := by
  cases e with
  | ListComp elt gs scope p =>
    obtain ⟨tg, iter, cifs, tg1, iter1, cifs1, rfl, wi, g, tt, wi1, g1, tt1, te, h1, h2, hv, h3, h4, k1, k2, k3, h5, h6, h6', h7⟩ := comp2_parts IHs ok Z h
    exact PE.imp (pe_lc2 ok.calm ok.nd h1 h2 hv h3 h4 k1 k2 k3 h5 (fold_ok h6) (fun env x => fold_ok h6' x)) h7
  | _ => cases h
/-- all expressions -/
theorem soundE (Γ : Nat → Option FS) (CT : CTab) : ∀ n, SoundE Γ CT n := fun n => by
  induction n using Nat.strongRecOn with
  | _ n ih =>
    cases n with
    | zero => intro cc X W ok Z m e h; cases h
    | succ n =>
      have IHs : ∀ k, k ≤ n → SoundE Γ CT k := fun k hk => ih k (by omega)
      have IH := IHs n (Nat.le_refl n)
      intro cc X W ok Z m e h
      cases m with
      | var i => exact snd_var IH ok Z h
      | con d => exact snd_con IH ok Z h
      | bin op a b => exact snd_bin IH ok Z h
      | neg a => exact snd_neg IH ok Z h
      | cmp op a b => exact (snd_cmp IH ok Z h).1
      | chain o1 o2 a b c => exact (snd_chain IH ok Z h).1
      | and_ a b => exact snd_and IH ok Z h
      | or_ a b => exact snd_or IH ok Z h
      | notv a => exact snd_not IH ok Z h
      | ife c a b => exact snd_ife IHs ok Z h
      | tup es => exact snd_tup IH ok Z h
      | lst es => exact snd_lst IH ok Z h
      | idx a i => exact snd_idx IH ok Z h
      | slc a lo hi => exact snd_slc IH ok Z h
      | call f as => exact snd_call IH ok Z h
      | callk f as ks perm => exact snd_callk IH ok Z h
      | bi b as =>
        by_cases hb : ∃ ts, b = .isi ts
        · obtain ⟨ts, rfl⟩ := hb; exact snd_isi IH ok Z h
        · by_cases h1 : b = .sset
          · subst h1; exact snd_sset IH ok Z h
          · by_cases h2 : b = .rngT
            · subst h2; exact snd_rngT IH ok Z h
            · by_cases h3 : b = .rngL
              · subst h3; exact snd_rngL IH ok Z h
              · exact snd_bi IH ok Z (fun ts z => hb ⟨ts, z⟩) ⟨h1, h2, h3⟩ h
      | mth mn i as => exact snd_mth IH ok Z h
      | comp el t it ifs own => exact snd_comp IHs ok Z h
      | comp2 el t it ifs t2 it2 ifs2 own => exact snd_comp2 IHs ok Z h
      | mtd md i as => exact snd_mtd IH ok Z h
      | _ => cases h
end
end GM

set_option maxRecDepth 100000
/-! GM: except suites -/
namespace GM
open PySem PySem.Spec PyProof.Rows L2
def clsE (cc : CC) (d : Nat) : Expr → Bool
  | .Name x _ => decide ((d, x) ∈ cc.cats) && gloB cc x
  | _ => false
def clsEs (cc : CC) : List Nat → List Expr → Bool
  | [], [] => true
  | d :: ds, e :: es => clsE cc d e && clsEs cc ds es
  | _, _ => false
def clsT (cc : CC) (ds : List Nat) : Expr → Bool
  | .Tuple es _ _ => clsEs cc ds es && decide (es.length ≤ LIM)
  | t => clsEs cc ds [t]
def chkHXs (rec : HX → Expr → Bool) : List HX → List Expr → Bool
  | [], [] => true
  | h :: hs, e :: es => rec h e && chkHXs rec hs es
  | _, _ => false
def chkHX (cc : CC) (i : Nat) : Nat → HX → Expr → Bool
  | 0, _, _ => false
  | n + 1, h, e => match h with
    | .con d => (match e with | .Constant c _ _ => conB d c | _ => false)
    | .att f => (match e with | .Attribute (.Name x _) g _ => decide (f = g) && nameB cc i x | _ => false)
    | .isx ds => (match e with | .Call (.Name y _) [.Name x _, t] [] _ => decide (y = "isinstance") && gloB cc y && nameB cc i x && clsT cc ds t | _ => false)
    | .tup hs => (match e with | .Tuple es _ _ => chkHXs (chkHX cc i n) hs es && decide (es.length ≤ LIM) | _ => false)
    | .and_ a b => (match e with | .BoolOp .And (x :: y :: es) p => chkHX cc i n a x && chkHX cc i n b (restB .And y es p) | _ => false)
    | .or_ a b => (match e with | .BoolOp .Or (x :: y :: es) p => chkHX cc i n a x && chkHX cc i n b (restB .Or y es p) | _ => false)
    | .not_ a => (match e with | .UnaryOp .Not x _ => chkHX cc i n a x | _ => false)
def chkHT (rec : HX → Expr → Bool) : Nat → HX → Expr → Bool
  | 0, _, _ => false
  | k + 1, h, e => match h with
    | .not_ a => (match e with | .UnaryOp .Not x _ => chkHT rec k a x | _ => false)
    | .and_ a b => (match e with | .BoolOp .And (x :: y :: es) p => chkHT rec k a x && chkHT rec k b (restB .And y es p) | _ => false)
    | .or_ a b => (match e with | .BoolOp .Or (x :: y :: es) p => chkHT rec k a x && chkHT rec k b (restB .Or y es p) | _ => false)
    | .isx ds => (match e with | .Call f es kw p => rec (.isx ds) (.Call f es kw p) | _ => false)
    | _ => false
def chkHSs (rec : HS → Stmt → Bool) : List HS → List Stmt → Bool
  | [], [] => true
  | h :: hs, e :: es => rec h e && chkHSs rec hs es
  | _, _ => false
def chkHS (cc : CC) (i : Nat) : Nat → HS → Stmt → Bool
  | 0, _, _ => false
  | n + 1, h, st => match h with
    | .ret e => (match st with | .Return (some v) _ => chkHX cc i n e v | _ => false)
    | .ite c a b => (match st with | .If t x y _ => chkHT (chkHX cc i n) n c t && chkHSs (chkHS cc i n) a x && chkHSs (chkHS cc i n) b y | _ => false)
theorem XR.mono {CT : CTab} {F F' : Hp} {x : EX} {cls : Value} {d : Option Addr} (s : Same F F') (h : XR CT F x cls d) : XR CT F' x cls d := by
  obtain ⟨C, ns, dx, vs, ds, e1, e2, e3, e4, e5, e6, e7⟩ := h
  exact ⟨C, ns, dx, vs, ds, e1, e2, e3, s _ _ e4, e5.mono s, e6, e7⟩
theorem zip_look {F : Hp} {f : Str} {r : D} : ∀ {ns : List Str} {vs : List V} {ds : List D}, Reps F vs ds → (ns.zip ds).lookup f = some r → ∃ v, (ns.zip vs).lookup f = some v ∧ Rep F v r ∧ f ∈ ns
  | [], _, _, _, h => by simp at h
  | n :: ns, _, _, .nil, h => by simp at h
  | n :: ns, v :: vs, d :: ds, .cons r1 r2, h => by
    rw [List.zip_cons_cons, List.lookup_cons] at h
    rw [List.zip_cons_cons, List.lookup_cons]
    cases e : f == n with
    | true =>
      rw [e] at h
      cases h
      exact ⟨v, rfl, r1, by rw [eq_of_beq e]; exact List.mem_cons_self⟩
    | false =>
      rw [e] at h
      obtain ⟨w, h1, h2, h3⟩ := zip_look r2 h
      exact ⟨w, h1, h2, List.mem_cons_of_mem _ h3⟩
/-- the suite's ground: slot i holds the error at a -/
def HG (CT : CTab) (i : Nat) (a : Addr) (cls : Value) (d : Option Addr) (x : EX) (F : Hp) (σ : L2.St) (H : Hp) : Prop := Same F H ∧ (∃ σ0 : L2.St, σ = σ0.set i (some (.ref a))) ∧ XR CT F x cls d
def tHX (CT : CTab) (i : Nat) (a : Addr) (cls : Value) (d : Option Addr) (h : HX) : TE := fun σ H Q => ∃ F x, HG CT i a cls d x F σ H ∧ ∃ r, hE h x = some r ∧ ∀ v F' H', Grow F H F' H' → Rep F' v r → Q v H'
def tHT (CT : CTab) (i : Nat) (a : Addr) (cls : Value) (d : Option Addr) (h : HX) : TT := fun σ H Q => ∃ F x, HG CT i a cls d x F σ H ∧ ∃ r, hE h x = some (.bool r) ∧ ∀ F' H', Grow F H F' H' → Q r H'
def tHXs (CT : CTab) (i : Nat) (a : Addr) (cls : Value) (d : Option Addr) (hs : List HX) : TA := fun σ H Q => ∃ F x, HG CT i a cls d x F σ H ∧ ∃ rs, hEs hs x = some rs ∧ ∀ vs F' H', Grow F H F' H' → Reps F' vs rs → Q vs H'
def hEnd (D : Ends) (F : Hp) (σ : L2.St) (H : Hp) : Option PyData → Prop
  | some d => ∀ v F' H', Grow F H F' H' → Rep F' v d → D.rt v H'
  | none => ∀ F' H', Grow F H F' H' → D.nx σ H'
def tHS (CT : CTab) (i : Nat) (a : Addr) (cls : Value) (d : Option Addr) (h : HS) : TS := fun D σ H => ∃ F x, HG CT i a cls d x F σ H ∧ ∃ r, hRun1 h x = some r ∧ hEnd D F σ H r
def tHSs (CT : CTab) (i : Nat) (a : Addr) (cls : Value) (d : Option Addr) (hs : List HS) : TS := fun D σ H => ∃ F x, HG CT i a cls d x F σ H ∧ ∃ r, hRun hs x = some r ∧ hEnd D F σ H r
theorem Grow.trans {F H F1 H1 F2 H2 : Hp} (g : Grow F H F1 H1) (g2 : Grow F1 H1 F2 H2) : Grow F H F2 H2 := ⟨g.f.trans g2.f, g2.le, g.h.trans g2.h, fun b hb => by
  rcases g2.new b hb with z | z
  · exact g.new b z
  · right
    cases e : H b with
    | none => rfl
    | some o => have := g.h _ _ e; rw [z] at this; cases this⟩
theorem PS.imp' {X : Cx} {e : Stmt} {t t' : TS} (h : PS X e t) (f : ∀ D σ H, t' D σ H → t D σ H) : PS X e t' := ⟨fun pins s σ H D I q => h.run pins s σ H D I (f _ _ _ q)⟩
theorem PSs.imp' {X : Cx} {e : List Stmt} {t t' : TS} (h : PSs X e t) (f : ∀ D σ H, t' D σ H → t D σ H) : PSs X e t' := ⟨fun pins s σ H D I q => h.run pins s σ H D I (f _ _ _ q)⟩
section
variable {Γ : Nat → Option FS} {CT : CTab} {X : Cx} {W : WX} {cc : CC} {i : Nat} {a : Addr} {oe : Obj} {cls : Value} {d : Option Addr} {pn : List (Addr × Obj)}
theorem HG.grow {x : EX} {F H F' H' : Hp} {σ : L2.St} (h : HG CT i a cls d x F σ H) (g : Grow F H F' H') : HG CT i a cls d x F' σ H' := ⟨g.le, h.2.1, h.2.2.mono g.f⟩
theorem HG.slot {x : EX} {F H : Hp} {σ : L2.St} {pins : List (Addr × Obj)} {s : Shared} {nm : Str} (h : HG CT i a cls d x F σ H) (I : Inv X pins σ H s) (hi : X.N[i]? = some nm) : σ[i]? = some (some (.ref a)) := by
  obtain ⟨σ0, e⟩ := h.2.1
  have hl := I.len
  have : i < X.N.length := (List.getElem?_eq_some_iff.mp hi).1
  rw [e] at hl ⊢
  rw [List.length_set] at hl
  rw [List.getElem?_set_self (by omega)]
theorem pe_cat (ok : Ok Γ CT X W cc) {d : Nat} {e : Expr} (h : clsE cc d e = true) : ∃ v D, ClsV v D ∧ PE (X.suite a ((a, oe) :: pn)) e (fun _ H Q => Q v H) ∧ (∀ es, starEach (e :: es) X.env = (false, eval e X.env) :: starEach es X.env) ∧ ∀ c C ns, CT c = some (C, ns) → PySem.W.exmOne X.K (.ref C) D = some (subX c d) ∧ PySem.W.kitOne X.K (.ref C) D = some (subX c d) := by
  cases e with
  | Name x p =>
    obtain ⟨h1, h2⟩ := and_split (show (decide ((d, x) ∈ cc.cats) && gloB cc x) = true from h)
    obtain ⟨gl, gd⟩ := ok.gl h2
    obtain ⟨D, hD, hk⟩ := ok.cat d x (of_decide_eq_true h1)
    rcases hD with ⟨A, rfl, hm⟩ | ⟨T, rfl, hm, hb, hn⟩
    · exact ⟨.ref A, _, .own A, ⟨fun pins s σ H Q I q => ld_glob I gl hm ⟨.ref A, H, I, rfl, q⟩ gd⟩, fun _ => name_star, hk⟩
    · exact ⟨.ty T, _, .ty T, ⟨fun pins s σ H Q I q => (pe_bltn (X := X.suite a ((a, oe) :: pn)) gl hm hb (show RelV (V.ty T) (.type T) from rfl) hn gd).run pins s σ H Q I q⟩, fun _ => name_star, hk⟩
  | _ => cases h
theorem pa_cats (ok : Ok Γ CT X W cc) : ∀ {ds : List Nat} {es : List Expr}, clsEs cc ds es = true → ∃ vs Ds, Paired ClsV vs Ds ∧ PA (X.suite a ((a, oe) :: pn)) es (fun _ H Q => Q vs H) ∧ vs.length = es.length ∧ ∀ c C ns, CT c = some (C, ns) → PySem.W.kitAny X.K (.ref C) Ds = some (ds.any fun d => subX c d)
  | [], [], _ => ⟨[], [], .nil, PA.imp pa_nil fun σ H Q q => q, rfl, fun _ _ _ _ => kitAny_nil⟩
  | d :: ds, e :: es, h => by
    obtain ⟨h1, h2⟩ := and_split h
    obtain ⟨v, D, c1, p1, s1, k1⟩ := pe_cat ok h1
    obtain ⟨vs, Ds, c2, p2, l2, k2⟩ := pa_cats ok h2
    refine ⟨v :: vs, D :: Ds, .cons c1 c2, PA.imp (pa_cons p1 p2 (s1 es)) fun σ H Q q => q, by simp [l2], fun c C ns hc => ?_⟩
    refine kitAny_cons (k1 c C ns hc).2 (fun e => ?_) fun e => ?_
    · rw [k2 c C ns hc]
      show _ = some (subX c d || ds.any fun d => subX c d)
      rw [e]; rfl
    · show (subX c d || ds.any fun d => subX c d) = true
      rw [e]; rfl
  | [], _ :: _, h => by cases h
  | _ :: _, [], h => by cases h
theorem ok_su (ok : Ok Γ CT X W cc) (hz : Zc cls d oe) : ∀ {i : Nat} {x : Str}, nameB cc i x = true → ∀ {pos : Pos}, PE (X.suite a ((a, oe) :: pn)) (.Name x pos) (tVar i) := fun {i x} h pos => by
  obtain ⟨h1, h2, h3, h4⟩ := ok.name h
  exact pe_var h1 h2 h3 h4
theorem restHX {n : Nat} {h : HX} {op : BoolOp} {y : Expr} {es : List Expr} {p : Pos} {t : TE} (hr : chkHX cc i n h (restB op y es p) = true) (rec : ∀ e, chkHX cc i n h e = true → PE (X.suite a ((a, oe) :: pn)) e t) : PE (X.suite a ((a, oe) :: pn)) (.BoolOp op (y :: es) p) t := by
  cases es with
  | nil => exact pe_one (rec y hr)
  | cons e es => exact rec _ hr
theorem starHX {n : Nat} {h : HX} {e : Expr} (hc : chkHX cc i n h e = true) (es : List Expr) (env : PySem.Env) : starEach (e :: es) env = (false, eval e env) :: starEach es env := by
  cases e with
  | Starred v p =>
    cases n with
    | zero => cases hc
    | succ n => cases h <;> cases hc
  | _ => rfl
theorem chkHXs_len {rec : HX → Expr → Bool} : ∀ {hs : List HX} {es : List Expr}, chkHXs rec hs es = true → hs.length = es.length
  | [], [], _ => rfl
  | h :: hs, e :: es, hc => by
    obtain ⟨_, h2⟩ := and_split hc
    simp [chkHXs_len h2]
  | [], _ :: _, h => by cases h
  | _ :: _, [], h => by cases h
theorem hEs_len {x : EX} : ∀ {hs : List HX} {rs : List PyData}, hEs hs x = some rs → rs.length = hs.length
  | [], rs, e => by cases e; rfl
  | h :: hs, rs, e => by
    have e : (match hE h x with | some d => (match hEs hs x with | some ds => some (d :: ds) | none => none) | none => none) = some rs := e
    cases e1 : hE h x with
    | none => rw [e1] at e; cases e
    | some r1 =>
      rw [e1] at e
      cases e2 : hEs hs x with
      | none => rw [e2] at e; cases e
      | some r2 =>
        rw [e2] at e
        cases e
        simp [hEs_len e2]
theorem bool_of {v : V} {F : Hp} {b : Bool} (r : Rep F v (.bool b)) : v = .bl b := by cases r; rfl
mutual
theorem snd_HX (ok : Ok Γ CT X W cc) (hz : Zc cls d oe) (hf : ∃ vs, oe.data = .fields vs) {nm : Str} (hi : X.N[i]? = some nm) : ∀ (n : Nat) (h : HX) (e : Expr), chkHX cc i n h e = true → PE (X.suite a ((a, oe) :: pn)) e (tHX CT i a cls d h)
  | 0, _, _, hc => by cases hc
  | n + 1, .con c, e, hc => by
    cases e with
    | Constant k j p =>
      have h' : conB c k = true := hc
      cases c <;> cases k <;> first | (cases h'; done) | skip
      · exact PE.imp pe_non fun σ H Q ⟨F, x, hg, r, er, q⟩ => by cases er; exact q _ F H (.refl hg.1) .non
      · have e1 := eq_of_beq h'
        subst e1
        exact PE.imp pe_bl fun σ H Q ⟨F, x, hg, r, er, q⟩ => by cases er; exact q _ F H (.refl hg.1) (.bl _)
      · have e1 := of_decide_eq_true h'
        subst e1
        exact PE.imp pe_int fun σ H Q ⟨F, x, hg, r, er, q⟩ => by cases er; exact q _ F H (.refl hg.1) (.int _)
      · have e1 := of_decide_eq_true h'
        subst e1
        exact PE.imp pe_str fun σ H Q ⟨F, x, hg, r, er, q⟩ => by cases er; exact q _ F H (.refl hg.1) (.str _)
    | _ => cases hc
  | n + 1, .att f, e, hc => by
    cases e with
    | Attribute o g p =>
      cases o with
      | Name x xp =>
        obtain ⟨h1, h2⟩ := and_split (show (decide (f = g) && nameB cc i x) = true from hc)
        have e1 := of_decide_eq_true h1
        subst e1
        refine ⟨fun pins s σ H Q I ⟨F, x', hg, r, er, q⟩ => ?_⟩
        have hs := hg.slot I hi
        obtain ⟨C, ns, dx, vs, ds, e1, e2, e3, e4, e5, e6, e7⟩ := hg.2.2
        subst e2 e3
        have E := ok.xc _ _ _ e1
        have er : x'.fs.lookup f = some r := er
        rw [e7] at er
        obtain ⟨v, k1, k2, k3⟩ := zip_look e5 er
        exact (pe_xf E.xf (E.no f k3) hz hf (ok_su ok hz h2)).run pins s σ H Q I ⟨_, hs, rfl, rfl, dx, _, v, rfl, hg.1 _ _ e4, k1, q v F H (.refl hg.1) k2⟩
      | _ => cases hc
    | _ => cases hc
  | n + 1, .isx ds, e, hc => by
    match e, hc with
    | .Call (.Name y yp) [.Name x xp, t] [] p, hc =>
      obtain ⟨hc, h4⟩ := and_split (show (decide (y = "isinstance") && gloB cc y && nameB cc i x && clsT cc ds t) = true from hc)
      obtain ⟨hc, h3⟩ := and_split hc
      obtain ⟨h1, h2⟩ := and_split hc
      have ey := of_decide_eq_true h1
      subst ey
      obtain ⟨gl, gd⟩ := ok.gl h2
      refine ⟨fun pins s σ H Q I ⟨F, x', hg, r, er, q⟩ => ?_⟩
      have hs := hg.slot I hi
      obtain ⟨C, ns, dx, vs, fs, e1, e2, e3, e4, e5, e6, e7⟩ := hg.2.2
      subst e2 e3
      have E := ok.xc _ _ _ e1
      cases er
      have pv := ok_su (a := a) (oe := oe) (pn := pn) ok hz h3 (pos := xp)
      by_cases ht : ∃ es k tp, t = .Tuple es k tp
      · obtain ⟨es, k, tp, rfl⟩ := ht
        obtain ⟨h4, h5⟩ := and_split (show (clsEs cc ds es && decide (es.length ≤ LIM)) = true from h4)
        obtain ⟨cs, Ds, c1, pt, pl, pk⟩ := pa_cats (a := a) (oe := oe) (pn := pn) ok h4
        have pa := pa_cons pv (pa_cons (pe_tup (x1 := k) (pos := tp) pt) pa_nil rfl) (name_star (p := xp))
        refine (pe_callB (call_isXT E hz hf) gl (ok.blt _ (by decide)) (by decide +kernel) pa (by decide) gd name_star rfl).run pins s σ H Q I ?_
        refine ⟨_, hs, plus_len pl (of_decide_eq_true h5), fun tpa htp => ?_⟩
        exact ⟨tpa, cs, Ds, _, _, rfl, upd_same, c1, pk _ _ _ e1, by rw [upd_ne (ne_of_none (hg.1 _ _ e4) htp)]; exact hg.1 _ _ e4, q _ _ _ (Grow.own hg.1 htp) (.bl _)⟩
      · have h4 : clsEs cc ds [t] = true := by
          cases t <;> first | exact h4 | exact absurd ⟨_, _, _, rfl⟩ ht
        match ds, h4 with
        | [c], h4 =>
          obtain ⟨h4, _⟩ := and_split h4
          obtain ⟨v, D, c1, p1, s1, k1⟩ := pe_cat (a := a) (oe := oe) (pn := pn) ok h4
          have pa := pa_cons pv (pa_cons p1 pa_nil (s1 [])) (name_star (p := xp))
          refine (pe_callB (call_isX E hz hf) gl (ok.blt _ (by decide)) (by decide +kernel) pa (by decide) gd name_star (by rw [s1]; rfl)).run pins s σ H Q I ?_
          refine ⟨_, hs, v, D, _, _, rfl, c1, (k1 _ _ _ e1).2, hg.1 _ _ e4, ?_⟩
          have := q _ _ _ (Grow.refl hg.1) (.bl _)
          simpa using this
        | [], h4 => cases h4
        | _ :: _ :: _, h4 => obtain ⟨_, h4⟩ := and_split h4; cases h4
  | n + 1, .tup hs, e, hc => by
    cases e with
    | Tuple es k p =>
      obtain ⟨h1, h2⟩ := and_split (show (chkHXs (chkHX cc i n) hs es && decide (es.length ≤ LIM)) = true from hc)
      refine PE.imp (pe_tup (snd_HXs ok hz hf hi n hs es h1)) fun σ H Q ⟨F, x, hg, r, er, q⟩ => ?_
      have er : (match hEs hs x with | some ds => some (PyData.tuple ds) | none => none) = some r := er
      cases e1 : hEs hs x with
      | none => rw [e1] at er; cases er
      | some rs =>
        rw [e1] at er
        cases er
        refine ⟨F, x, hg, rs, e1, fun vs F1 H1 g rv => ⟨plus_len (rv.length.trans ((hEs_len e1).trans (chkHXs_len h1))) (of_decide_eq_true h2), fun tp htp => ?_⟩⟩
        exact q _ _ _ (g.trans (Grow.froz g.le htp)) (.tup upd_same (rv.mono (same_upd (noneF g.le htp))))
    | _ => cases hc
  | n + 1, .and_ b c, e, hc => by
    match e, hc with
    | .BoolOp .And (x :: y :: es) p, hc =>
      obtain ⟨h1, h2⟩ := and_split (show (chkHX cc i n b x && chkHX cc i n c (restB .And y es p)) = true from hc)
      refine PE.imp (pe_andT (snd_HX ok hz hf hi n b x h1) (restHX h2 fun e he => snd_HX ok hz hf hi n c e he)) fun σ H Q ⟨F, x', hg, r, er, q⟩ => ?_
      have er : (match hE b x' with | some (.bool true) => hE c x' | some (.bool false) => some (.bool false) | _ => none) = some r := er
      split at er
      · rename_i e1
        refine ⟨F, x', hg, _, e1, fun v F1 H1 g rv => ⟨true, by rw [bool_of rv]; rfl, ?_⟩⟩
        rw [if_pos rfl]
        exact ⟨F1, x', hg.grow g, r, er, fun v2 F2 H2 g2 rv2 => q v2 F2 H2 (g.trans g2) rv2⟩
      · rename_i e1
        cases er
        refine ⟨F, x', hg, _, e1, fun v F1 H1 g rv => ⟨false, by rw [bool_of rv]; rfl, ?_⟩⟩
        rw [if_neg Bool.false_ne_true]
        exact q v F1 H1 g rv
      · cases er
  | n + 1, .or_ b c, e, hc => by
    match e, hc with
    | .BoolOp .Or (x :: y :: es) p, hc =>
      obtain ⟨h1, h2⟩ := and_split (show (chkHX cc i n b x && chkHX cc i n c (restB .Or y es p)) = true from hc)
      refine PE.imp (pe_orT (snd_HX ok hz hf hi n b x h1) (restHX h2 fun e he => snd_HX ok hz hf hi n c e he)) fun σ H Q ⟨F, x', hg, r, er, q⟩ => ?_
      have er : (match hE b x' with | some (.bool true) => some (.bool true) | some (.bool false) => hE c x' | _ => none) = some r := er
      split at er
      · rename_i e1
        cases er
        refine ⟨F, x', hg, _, e1, fun v F1 H1 g rv => ⟨true, by rw [bool_of rv]; rfl, ?_⟩⟩
        rw [if_pos rfl]
        exact q v F1 H1 g rv
      · rename_i e1
        refine ⟨F, x', hg, _, e1, fun v F1 H1 g rv => ⟨false, by rw [bool_of rv]; rfl, ?_⟩⟩
        rw [if_neg Bool.false_ne_true]
        exact ⟨F1, x', hg.grow g, r, er, fun v2 F2 H2 g2 rv2 => q v2 F2 H2 (g.trans g2) rv2⟩
      · cases er
  | n + 1, .not_ b, e, hc => by
    match e, hc with
    | .UnaryOp .Not x p, hc =>
      refine PE.imp (pe_notT (snd_HX ok hz hf hi n b x hc)) fun σ H Q ⟨F, x', hg, r, er, q⟩ => ?_
      have er : (match hE b x' with | some (.bool t) => some (PyData.bool (!t)) | _ => none) = some r := er
      split at er
      · rename_i t e1
        cases er
        refine ⟨F, x', hg, _, e1, fun v F1 H1 g rv => ⟨t, by rw [bool_of rv]; rfl, q _ F1 H1 g (.bl _)⟩⟩
      · cases er
theorem snd_HXs (ok : Ok Γ CT X W cc) (hz : Zc cls d oe) (hf : ∃ vs, oe.data = .fields vs) {nm : Str} (hi : X.N[i]? = some nm) : ∀ (n : Nat) (hs : List HX) (es : List Expr), chkHXs (chkHX cc i n) hs es = true → PA (X.suite a ((a, oe) :: pn)) es (tHXs CT i a cls d hs)
  | n, [], [], _ => PA.imp pa_nil fun σ H Q ⟨F, x, hg, r, er, q⟩ => by
    cases er
    exact q [] F H (.refl hg.1) .nil
  | n, h :: hs, e :: es, hc => by
    obtain ⟨h1, h2⟩ := and_split hc
    refine PA.imp (pa_cons (snd_HX ok hz hf hi n h e h1) (snd_HXs ok hz hf hi n hs es h2) (starHX h1 es _)) fun σ H Q ⟨F, x, hg, r, er, q⟩ => ?_
    have er : (match hE h x with | some d => (match hEs hs x with | some ds => some (d :: ds) | none => none) | none => none) = some r := er
    cases e1 : hE h x with
    | none => rw [e1] at er; cases er
    | some r1 =>
      rw [e1] at er
      cases e2 : hEs hs x with
      | none => rw [e2] at er; cases er
      | some r2 =>
        rw [e2] at er
        cases er
        exact ⟨F, x, hg, r1, e1, fun v F1 H1 g rv => ⟨F1, x, hg.grow g, r2, e2, fun vs F2 H2 g2 rvs => q (v :: vs) F2 H2 (g.trans g2) (.cons (rv.mono g2.f) rvs)⟩⟩
  | n, [], _ :: _, hc => by cases hc
  | n, _ :: _, [], hc => by cases hc
end
theorem snd_HT (ok : Ok Γ CT X W cc) (hz : Zc cls d oe) (hf : ∃ vs, oe.data = .fields vs) {nm : Str} (hi : X.N[i]? = some nm) {n : Nat} : ∀ (k : Nat) (h : HX) (e : Expr), chkHT (chkHX cc i n) k h e = true → PT (X.suite a ((a, oe) :: pn)) e (tHT CT i a cls d h)
  | 0, _, _, hc => by cases hc
  | k + 1, h, e, hc => by
    have rest : ∀ {op : BoolOp} {b : HX} {y : Expr} {es : List Expr} {p : Pos}, chkHT (chkHX cc i n) k b (restB op y es p) = true → PW (X.suite a ((a, oe) :: pn)) (.BoolOp op (y :: es) p) (tHT CT i a cls d b) := by
      intro op b y es p hb
      cases es with
      | nil => cases op with
        | And => exact pw_and1 (snd_HT ok hz hf hi k b y hb)
        | Or => exact pw_or1 (snd_HT ok hz hf hi k b y hb)
      | cons e es =>
        have hp := snd_HT ok hz hf hi k b _ hb
        exact ⟨fun wh pins s σ H Q I q => hp.run pins s σ H Q I q⟩
    cases h with
    | not_ b =>
      match e, hc with
      | .UnaryOp .Not x p, hc =>
        refine PT.imp (pt_not (snd_HT ok hz hf hi k b x hc)) fun σ H Q ⟨F, x', hg, r, er, q⟩ => ?_
        have er : (match hE b x' with | some (.bool t) => some (PyData.bool (!t)) | _ => none) = some (.bool r) := er
        split at er
        · rename_i t e1
          cases er
          exact ⟨F, x', hg, t, e1, fun F1 H1 g => q F1 H1 g⟩
        · cases er
    | and_ b c =>
      match e, hc with
      | .BoolOp .And (x :: y :: es) p, hc =>
        obtain ⟨h1, h2⟩ := and_split (show (chkHT (chkHX cc i n) k b x && chkHT (chkHX cc i n) k c (restB .And y es p)) = true from hc)
        refine PT.imp (PW.pt (pw_and (snd_HT ok hz hf hi k b x h1) (rest h2))) fun σ H Q ⟨F, x', hg, r, er, q⟩ => ?_
        have er : (match hE b x' with | some (.bool true) => hE c x' | some (.bool false) => some (.bool false) | _ => none) = some (.bool r) := er
        split at er
        · rename_i e1
          exact ⟨F, x', hg, true, e1, fun F1 H1 g => ⟨F1, x', hg.grow g, r, er, fun F2 H2 g2 => q F2 H2 (g.trans g2)⟩⟩
        · rename_i e1
          cases er
          exact ⟨F, x', hg, false, e1, fun F1 H1 g => q F1 H1 g⟩
        · cases er
    | or_ b c =>
      match e, hc with
      | .BoolOp .Or (x :: y :: es) p, hc =>
        obtain ⟨h1, h2⟩ := and_split (show (chkHT (chkHX cc i n) k b x && chkHT (chkHX cc i n) k c (restB .Or y es p)) = true from hc)
        refine PT.imp (PW.pt (pw_or (snd_HT ok hz hf hi k b x h1) (rest h2))) fun σ H Q ⟨F, x', hg, r, er, q⟩ => ?_
        have er : (match hE b x' with | some (.bool true) => some (.bool true) | some (.bool false) => hE c x' | _ => none) = some (.bool r) := er
        split at er
        · rename_i e1
          cases er
          exact ⟨F, x', hg, true, e1, fun F1 H1 g => q F1 H1 g⟩
        · rename_i e1
          exact ⟨F, x', hg, false, e1, fun F1 H1 g => ⟨F1, x', hg.grow g, r, er, fun F2 H2 g2 => q F2 H2 (g.trans g2)⟩⟩
        · cases er
    | isx ds =>
      match e, hc with
      | .Call f es kw p, hc =>
        refine PT.imp (pt_truth (snd_HX ok hz hf hi n (.isx ds) (.Call f es kw p) hc) (by intro _; rfl)) fun σ H Q ⟨F, x', hg, r, er, q⟩ => ?_
        exact ⟨F, x', hg, _, er, fun v F1 H1 g rv => ⟨r, by rw [bool_of rv]; rfl, q F1 H1 g⟩⟩
    | _ => cases hc
theorem snd_HSs {n : Nat} (rec : ∀ (h : HS) (st : Stmt), chkHS cc i n h st = true → PS (X.suite a ((a, oe) :: pn)) st (tHS CT i a cls d h)) : ∀ (hs : List HS) (sts : List Stmt), chkHSs (chkHS cc i n) hs sts = true → PSs (X.suite a ((a, oe) :: pn)) sts (tHSs CT i a cls d hs)
  | [], [], _ => PSs.imp' pss_nil fun D σ H ⟨F, x, hg, r, er, q⟩ => by
    cases er
    exact q F H (.refl hg.1)
  | h :: hs, st :: sts, hc => by
    obtain ⟨h1, h2⟩ := and_split hc
    refine PSs.imp' (pss_cons (rec h st h1) (snd_HSs rec hs sts h2)) fun D σ H ⟨F, x, hg, r, er, q⟩ => ?_
    have er : (match hRun1 h x with | some none => hRun hs x | r => r) = some r := er
    cases e1 : hRun1 h x with
    | none => rw [e1] at er; cases er
    | some w =>
      rw [e1] at er
      cases w with
      | some d =>
        cases er
        exact ⟨F, x, hg, _, e1, fun v F1 H1 g rv => q v F1 H1 g rv⟩
      | none =>
        refine ⟨F, x, hg, none, e1, fun F1 H1 g => ⟨F1, x, hg.grow g, r, er, ?_⟩⟩
        cases r with
        | none => exact fun F2 H2 g2 => q F2 H2 (g.trans g2)
        | some d => exact fun v F2 H2 g2 rv => q v F2 H2 (g.trans g2) rv
  | [], _ :: _, hc => by cases hc
  | _ :: _, [], hc => by cases hc
theorem run_ret {e : HX} {x : EX} {r : Option PyData} (h : hRun1 (.ret e) x = some r) : ∃ d, hE e x = some d ∧ r = some d := by
  rw [hRun1] at h
  split at h
  · cases h; exact ⟨_, by assumption, rfl⟩
  · cases h
theorem run_ite {c : HX} {b1 b2 : List HS} {x : EX} {r : Option PyData} (h : hRun1 (.ite c b1 b2) x = some r) : (hE c x = some (.bool true) ∧ hRun b1 x = some r) ∨ (hE c x = some (.bool false) ∧ hRun b2 x = some r) := by
  rw [hRun1] at h
  split at h
  · exact .inl ⟨by assumption, h⟩
  · exact .inr ⟨by assumption, h⟩
  · cases h
theorem snd_ret' (ok : Ok Γ CT X W cc) (hz : Zc cls d oe) (hf : ∃ vs, oe.data = .fields vs) {nm : Str} (hi : X.N[i]? = some nm) {n : Nat} {e : HX} {v : Expr} {p : Pos} (hc : chkHX cc i n e v = true) : PS (X.suite a ((a, oe) :: pn)) (.Return (some v) p) (tHS CT i a cls d (.ret e)) := by
  refine PS.imp' (ps_ret (snd_HX ok hz hf hi n e v hc)) ?_
  intro D σ H h
  obtain ⟨F, x, hg, r, er, q⟩ := h
  obtain ⟨d', e1, rfl⟩ := run_ret er
  exact ⟨F, x, hg, d', e1, fun v F1 H1 g rv => q v F1 H1 g rv⟩
theorem snd_HS (ok : Ok Γ CT X W cc) (hz : Zc cls d oe) (hf : ∃ vs, oe.data = .fields vs) {nm : Str} (hi : X.N[i]? = some nm) : ∀ (n : Nat) (h : HS) (st : Stmt), chkHS cc i n h st = true → PS (X.suite a ((a, oe) :: pn)) st (tHS CT i a cls d h)
  | 0, _, _, hc => by cases hc
  | n + 1, .ret e, st, hc => by
    cases st with
    | Return o p =>
      cases o with
      | some v => exact snd_ret' ok hz hf hi (n := n) hc
      | none => cases hc
    | _ => cases hc
  | n + 1, .ite c b1 b2, st, hc => by
    cases st with
    | If t y z p =>
      obtain ⟨hc, h3⟩ := and_split (show (chkHT (chkHX cc i n) n c t && chkHSs (chkHS cc i n) b1 y && chkHSs (chkHS cc i n) b2 z) = true from hc)
      obtain ⟨h1, h2⟩ := and_split hc
      refine PS.imp' (ps_if (snd_HT ok hz hf hi n c t h1) (snd_HSs (snd_HS ok hz hf hi n) b1 y h2) (snd_HSs (snd_HS ok hz hf hi n) b2 z h3)) ?_
      intro D σ H h
      obtain ⟨F, x, hg, r, er, q⟩ := h
      have ends : ∀ {F1 H1}, Grow F H F1 H1 → hEnd D F1 σ H1 r := fun {F1 H1} g => by
        cases r with
        | none => exact fun F2 H2 g2 => q F2 H2 (g.trans g2)
        | some d => exact fun v F2 H2 g2 rv => q v F2 H2 (g.trans g2) rv
      rcases run_ite er with ⟨e1, er⟩ | ⟨e1, er⟩
      · refine ⟨F, x, hg, true, e1, fun F1 H1 g => ?_⟩
        show tHSs CT i a cls d b1 D σ H1
        exact ⟨F1, x, hg.grow g, r, er, ends g⟩
      · refine ⟨F, x, hg, false, e1, fun F1 H1 g => ?_⟩
        show tHSs CT i a cls d b2 D σ H1
        exact ⟨F1, x, hg.grow g, r, er, ends g⟩
    | _ => cases hc
end
end GM

set_option maxRecDepth 100000
/-! GM: statements keep what wpS says -/
namespace GM
open PySem PySem.Spec PyProof.Rows L2
def isComp : Expr → Bool
  | .ListComp .. => true
  | .SetComp .. => true
  | .DictComp .. => true
  | _ => false
def funB (sc : Scope) : Bool := match sc.kind with
  | .function => true
  | _ => false
/-- name = value: how it is stored -/
def asgV (cc : CC) (x : Str) (px : Pos) : Expr → Bool
  | .ListComp _ _ sc pos => decide (cc.sc.names.lookup x = some .cell) || (funB cc.sc && decide (cc.sc.names.lookup x = some .local) && (px.line == pos.line) && !(sc.names.any fun (n, k) => n == x && (k == .local || k == .cell)))
  | .SetComp .. => false
  | .DictComp .. => false
  | _ => true
/-- a tuple of targets: not stored from the right -/
def tupV (ts : List Expr) : Expr → Bool
  | .Tuple vs _ _ => !(ts.length == 2 || ts.length == 3) || vs.all (foldedForSure 8)
  | _ => true
def starB : Expr → Bool
  | .Starred .. => true
  | _ => false
def parV (cc : CC) (x y : Str) (px py : Pos) (a b : Expr) : Bool := funB cc.sc && decide (cc.sc.names.lookup x = some .local) && decide (cc.sc.names.lookup y = some .local) && (py.line == px.line) && !(x == y) && !(starB a) && !(starB b) && !([a, b].all (foldedForSure 8)) && !([a, b].all (constantsAlone 8))
def augB (op : BOp) (o : Operator) : Bool := match op, o with
  | .add, .Add => true
  | .sub, .Sub => true
  | _, _ => false
def chkSs (rec : S → Stmt → Bool) : List S → List Stmt → Bool
  | [], [] => true
  | s :: ss, t :: ts => rec s t && chkSs rec ss ts
  | _, _ => false
def chkS : Nat → CC → S → Stmt → Bool
  | 0, _, _, _ => false
  | n + 1, cc, s, st => match s with
    | .asg (.nm i) e => (match st with | .Assign [.Name x px] v _ => decide (cc.N[i]? = some x) && cc.st x && chkE n cc e v && asgV cc x px v | _ => false)
    | .asg (.tp ts) e => (match st with | .Assign [.Tuple tgs k tp] v _ => chkG cc n (.tp ts) (.Tuple tgs k tp) && chkE n cc e v && tupV tgs v | _ => false)
    | .seti i ix e => (match st with | .Assign [.Subscript (.Name x _) ie _] v _ => nameB cc i x && chkE n cc ix ie && chkE n cc e v | _ => false)
    | .augi i ix op e => (match st with | .AugAssign (.Subscript (.Name x _) ie _) o v _ => augB op o && nameB cc i x && chkE n cc ix ie && chkE n cc e v | _ => false)
    | .aug i op e => (match st with | .AugAssign (.Name x _) o v _ => augB op o && decide (cc.N[i]? = some x) && cc.st x && chkE n cc e v | _ => false)
    | .par i j a b => (match st with | .Assign [.Tuple [.Name x px, .Name y py] _ _] (.Tuple [va, vb] _ _) _ => decide (cc.N[i]? = some x) && decide (cc.N[j]? = some y) && chkE n cc a va && chkE n cc b vb && parV cc x y px py va vb | _ => false)
    | .ite c a b => (match st with | .If t x y _ => chkT (chkE n cc) n c t && chkSs (chkS n cc) a x && chkSs (chkS n cc) b y | _ => false)
    | .whl c b => (match st with | .While t x [] _ => chkT (chkE n cc) n c t && chkSs (chkS n cc) b x | _ => false)
    | .for_ t it b => (match st with | .For tg iter x [] _ => chkI cc (chkE n cc) tg it iter && chkG cc n t tg && chkSs (chkS n cc) b x | _ => false)
    | .ret e => (match st with | .Return (some v) _ => chkE n cc e v | _ => false)
    | .ret0 => (match st with | .Return none _ => true | _ => false)
    | .exp e => (match st with | .Expr v _ => chkE n cc e v && !isComp v | _ => false)
    | .brk => (match st with | .Break _ => true | _ => false)
    | .cnt => (match st with | .Continue _ => true | _ => false)
    | .pas => (match st with | .Pass _ => true | .Expr (.Constant (.str _) _ _) _ => true | _ => false)
    | .rse c ns as => (match st with | .Raise (some (.Call (.Name x _) (e :: es) [] _)) none _ => decide ((c, x, ns) ∈ cc.excs) && gloB cc x && chkL (chkE n cc) as (e :: es) && decide (ns.length = as.length) | _ => false)
    | .tri b c i hs => (match st with | .Try body [.ExceptHandler (some (.Name x _)) (some nm) (s0 :: su) _] [] [] _ => decide ((c, x) ∈ cc.cats) && gloB cc x && decide (cc.N[i]? = some nm) && decide (cc.sc.names.lookup nm = some .local) && chkSs (chkS n cc) b body && chkHSs (chkHS cc i n) hs (s0 :: su) && cc.top | _ => false)
structure KOk (CT : CTab) (K : PySem.W.Frag) (W : WX) (Z : Zt) (F : Hp) (D : Ends) (k : GM.K) : Prop where
  nx : ∀ env', k.nx env' → ∀ σ' F' H', Same F F' → SR K Z F' H' σ' env' → D.nx σ' H'
  bk : ∀ env', k.bk env' → ∀ σ' F' H', Same F F' → SR K Z F' H' σ' env' → D.bk σ' H'
  ct : ∀ env', k.ct env' → ∀ σ' F' H', Same F F' → SR K Z F' H' σ' env' → D.ct σ' H'
  rt : ∀ u env', k.rt u env' → ∀ v σ' F' H', Same F F' → SR K Z F' H' σ' env' → RU Z F' H' σ' env' v u → D.rt v H'
  ex : ∀ x env', k.ex x env' → ∀ σ' cls d F' H', Same F F' → SR K Z F' H' σ' env' → XR CT F' x cls d → W cls d σ' H'
theorem KOk.mono {CT : CTab} {K : PySem.W.Frag} {W : WX} {Z : Zt} {F F' : Hp} {D : Ends} {k : GM.K} (h : KOk CT K W Z F D k) (s : Same F F') : KOk CT K W Z F' D k where
  nx := fun e q σ' G H' s' => h.nx e q σ' G H' (s.trans s')
  bk := fun e q σ' G H' s' => h.bk e q σ' G H' (s.trans s')
  ct := fun e q σ' G H' s' => h.ct e q σ' G H' (s.trans s')
  rt := fun u e q v σ' G H' s' => h.rt u e q v σ' G H' (s.trans s')
  ex := fun u e q σ' c d G H' s' => h.ex u e q σ' c d G H' (s.trans s')
theorem KOk.px {CT : CTab} {K : PySem.W.Frag} {W : WX} {Z : Zt} {F : Hp} {D : Ends} {k : GM.K} (h : KOk CT K W Z F D k) (σ : L2.St) : ∀ x e, k.ex x e → PX CT K W Z σ F x e := fun x e q cls d F' H' s' S' r => h.ex x e q σ cls d F' H' s' S' r
def tS (Γ : Nat → Option FS) (CT : CTab) (K : PySem.W.Frag) (W : WX) (Z : Zt) (n : Nat) (s : S) : TS := fun D σ H => ∃ F env k, SR K Z F H σ env ∧ KOk CT K W Z F D k ∧ wpS Γ n s env k
def tSs (Γ : Nat → Option FS) (CT : CTab) (K : PySem.W.Frag) (W : WX) (Z : Zt) (n : Nat) (ss : List S) : TS := fun D σ H => ∃ F env k, SR K Z F H σ env ∧ KOk CT K W Z F D k ∧ wpSs (wpS Γ n) ss env k
theorem PS.imp {X : Cx} {e : Stmt} {t t' : TS} (h : PS X e t) (f : ∀ D σ H, t' D σ H → t D σ H) : PS X e t' := ⟨fun pins s σ H D I q => h.run pins s σ H D I (f _ _ _ q)⟩
theorem PSs.imp {X : Cx} {e : List Stmt} {t t' : TS} (h : PSs X e t) (f : ∀ D σ H, t' D σ H → t D σ H) : PSs X e t' := ⟨fun pins s σ H D I q => h.run pins s σ H D I (f _ _ _ q)⟩
def SoundS (Γ : Nat → Option FS) (CT : CTab) (n : Nat) : Prop := ∀ (cc : CC) (X : Cx) (W : WX), Ok Γ CT X W cc → ∀ (Z : Zt) (s : S) (st : Stmt), chkS n cc s st = true → PS X st (tS Γ CT X.K W Z n s)
section
variable {Γ : Nat → Option FS} {CT : CTab} {X : Cx} {W : WX} {cc : CC} {Z : Zt} {n : Nat}
theorem snd_Ss (IH : SoundS Γ CT n) (ok : Ok Γ CT X W cc) (Z : Zt) : ∀ {ss : List S} {sts : List Stmt}, chkSs (chkS n cc) ss sts = true → PSs X sts (tSs Γ CT X.K W Z n ss)
  | [], [], _ => PSs.imp pss_nil fun D σ H ⟨F, env, k, S, ko, q⟩ => ko.nx env q σ F H same_refl S
  | s :: ss, st :: sts, h => by
    obtain ⟨h1, h2⟩ := and_split h
    refine PSs.imp (pss_cons (IH cc X W ok Z s st h1) (snd_Ss IH ok Z h2)) fun D σ H ⟨F, env, k, S, ko, q⟩ => ?_
    exact ⟨F, env, { k with nx := fun env1 => wpSs (wpS Γ n) ss env1 k }, S, ⟨fun env' q' σ' F' H' s' S' => ⟨F', env', k, S', ko.mono s', q'⟩, ko.bk, ko.ct, ko.rt, ko.ex⟩, q⟩
  | [], _ :: _, h => by cases h
  | _ :: _, [], h => by cases h
theorem fun_of {sc : Scope} (h : funB sc = true) : sc.kind = .function := by
  unfold funB at h
  split at h
  · assumption
  · cases h
theorem at_len (ok : Ok Γ CT X W cc) {i : Nat} {x : Str} (h : decide (cc.N[i]? = some x) = true) : X.N[i]? = some x := by rw [ok.n]; exact of_decide_eq_true h
theorem put_ge {env : Env} {i : Nat} {u : Option U} (h : ¬ i < env.length) : put env i u = env := by
  induction env generalizing i with
  | nil => rfl
  | cons w r ih => cases i with
    | zero => simp at h
    | succ i => show w :: put r i u = _; rw [ih (by simpa using h)]
theorem SR.store' {K : PySem.W.Frag} {F H : Hp} {σ : L2.St} {env : Env} {i : Nat} {v : V} {u : U} (S : SR K Z F H σ env) (ao : asgOk env i) (st : storable u) (h : RU Z F H σ env v u) : SR K Z F H (σ.set i (some v)) (put env i (some u)) := by
  by_cases hi : i < env.length
  · exact S.store hi (S.asg ao) st h
  · rw [put_ge hi, List.set_eq_of_length_le (by rw [← S.len]; omega)]
    exact S
theorem sw_cell {elt : Expr} {gs : List Comprehension} {scope : Scope} {pos py : Pos} {y : Str} {l : Nat} {env : PySem.Env} (hy : env.scope.names.lookup y = some .cell) : swapsWith (.ListComp elt gs scope pos) (some (.Name y py)) l env = pure false := by
  have ky : env.kindOf y = some .cell := hy
  have e : ((some NameKind.cell : Option NameKind) == some .local) = false := by decide
  unfold swapsWith
  simp only [ky, e, Bool.and_false, Bool.false_and]
theorem snd_asg (ok : Ok Γ CT X W cc) (Z : Zt) {i : Nat} {e : M} {st : Stmt} (h : chkS (n + 1) cc (.asg (.nm i) e) st = true) : PS X st (tS Γ CT X.K W Z (n + 1) (.asg (.nm i) e)) := by
  have IHs : ∀ k, k ≤ n → SoundE Γ CT k := fun k _ => soundE Γ CT k
  have M := wpE_mono Γ n
  have read : ∀ D σ H, tS Γ CT X.K W Z (n + 1) (.asg (.nm i) e) D σ H → tAsg (tE Γ CT X.K W Z n e) (gName i) D σ H := by
    rintro D σ H ⟨F, env, k, S, ko, q⟩
    rw [wpS_succ] at q
    unfold wpS1 at q
    dsimp only at q
    refine ⟨F, env, S, M _ _ _ _ _ _ q (ko.px σ) fun u env1 q1 v F1 H1 s1 S1 r1 => ?_⟩
    obtain ⟨⟨c1, c2⟩, q2⟩ := ckP_get q1
    exact ko.nx _ (envP_get q2) _ F1 H1 s1 (S1.store' c1 c2 r1)
  cases st with
  | Assign tgs v p =>
    cases tgs with
    | nil => cases h
    | cons a l => cases l with
      | cons b l => cases a <;> cases h
      | nil => cases a with
        | Name x px =>
          obtain ⟨h, h4⟩ := and_split (show (decide (cc.N[i]? = some x) && cc.st x && chkE n cc e v && asgV cc x px v) = true from h)
          obtain ⟨h, h3⟩ := and_split h
          obtain ⟨h1, h2⟩ := and_split h
          have hi := at_len ok h1
          obtain ⟨l1, l2⟩ := ok.st x h2
          by_cases hc : isComp v = false
          · refine PS.imp (ps_set ok.nd hi l1 (soundE Γ CT n cc X W ok Z e v h3) ?_ l2) read
            cases v <;> first | rfl | cases hc
          · cases v with
            | ListComp elt gs sc pos =>
              rcases Bool.or_eq_true_iff.mp (show (decide (cc.sc.names.lookup x = some .cell) || (funB cc.sc && decide (cc.sc.names.lookup x = some .local) && (px.line == pos.line) && !(sc.names.any fun (n, k) => n == x && (k == .local || k == .cell)))) = true from h4) with hcell | h4
              · exact PS.imp (ps_set ok.nd hi l1 (soundE Γ CT n cc X W ok Z e _ h3) (sw_cell (by rw [ok.sc]; exact of_decide_eq_true hcell)) l2) read
              obtain ⟨h4, k4⟩ := and_split (show (funB cc.sc && decide (cc.sc.names.lookup x = some .local) && (px.line == pos.line) && !(sc.names.any fun (n, k) => n == x && (k == .local || k == .cell))) = true from h4)
              obtain ⟨h4, k3⟩ := and_split h4
              obtain ⟨k1, k2⟩ := and_split h4
              cases n with
              | zero => cases h3
              | succ n =>
                cases e with
                | comp el t it ifs own =>
                  obtain ⟨tg, iter, cifs, rfl, wi, g, tt, te, h1, h2, h3, h4, h5, h6, h7⟩ := comp_parts (n := n) (fun k hk => IHs k (by omega)) ok Z h3
                  have hl : X.env.scope.names.lookup x = some .local := by rw [ok.sc]; exact of_decide_eq_true k2
                  have hk : X.env.scope.kind = .function := by rw [ok.sc]; exact fun_of k1
                  exact PS.imp (ps_setLc ok.calm ok.nd hi hl (sw_true hk hl k3 (not_true k4)) h1 h2 h3 h4 h5 (fold_ok h6)) fun D σ H q => h7 _ _ _ (read D σ H q)
                | comp2 el t it ifs t2 it2 ifs2 own =>
                  obtain ⟨tg, iter, cifs, tg1, iter1, cifs1, rfl, wi, g, tt, wi1, g1, tt1, te, h1, h2, hv, h3, h4, j1, j2, j3, h5, h6, h6', h7⟩ := comp2_parts (n := n) (fun k hk => IHs k (by omega)) ok Z h3
                  have hl : X.env.scope.names.lookup x = some .local := by rw [ok.sc]; exact of_decide_eq_true k2
                  have hk : X.env.scope.kind = .function := by rw [ok.sc]; exact fun_of k1
                  exact PS.imp (ps_setLc2 ok.calm ok.nd hi hl (sw_true hk hl k3 (not_true k4)) h1 h2 hv h3 h4 j1 j2 j3 h5 (fold_ok h6) (fun env x => fold_ok h6' x)) fun D σ H q => h7 _ _ _ (read D σ H q)
                | bi b as => cases b <;> cases h3
                | _ => cases h3
            | SetComp => cases h4
            | DictComp => cases h4
            | _ => exact absurd rfl hc
        | _ => cases h
  | _ => cases h
theorem sw_folded {ts vs : List Expr} {kt : Nat} {pt : Pos} {k2 : Nat} {p2 : Pos} {env : PySem.Env} (h : tupV ts (.Tuple vs k2 p2) = true) : swappedStores [.Tuple ts kt pt] (.Tuple vs k2 p2) env = pure none := by
  have h3 : (!(ts.length == 2 || ts.length == 3) || vs.all (foldedForSure 8)) = true := h
  unfold swappedStores
  dsimp only
  split
  · rfl
  · rename_i hz
    have hf : vs.all (foldedForSure 8) = true := by
      cases q : vs.all (foldedForSure 8) with
      | true => rfl
      | false =>
        exfalso
        rw [q, Bool.or_false] at h3
        apply hz
        rw [h3]
        rfl
    rw [if_pos hf]
    split
    · rfl
    · split <;> rfl
theorem snd_asgT (ok : Ok Γ CT X W cc) (Z : Zt) {ts : List T} {e : M} {st : Stmt} (h : chkS (n + 1) cc (.asg (.tp ts) e) st = true) : PS X st (tS Γ CT X.K W Z (n + 1) (.asg (.tp ts) e)) := by
  have M := wpE_mono Γ n
  cases st with
  | Assign tgs v p =>
    cases tgs with
    | nil => cases h
    | cons a l => cases l with
      | cons b l => cases a <;> cases h
      | nil => cases a with
        | Tuple tgs k tp =>
          obtain ⟨h, h3⟩ := and_split (show (chkG cc n (.tp ts) (.Tuple tgs k tp) && chkE n cc e v && tupV tgs v) = true from h)
          obtain ⟨h1, h2⟩ := and_split h
          refine PS.imp (ps_asg (soundE Γ CT n cc X W ok Z e v h2) (snd_G ok Z h1) ?_ ?_ ?_) ?_
          · cases v <;> rfl
          · cases v with
            | Tuple vs k2 p2 => exact sw_folded h3
            | _ => rfl
          · rw [asg_each h1]; rfl
          · rintro D σ H ⟨F, env, k, S, ko, q⟩
            rw [wpS_succ] at q
            unfold wpS1 at q
            dsimp only at q
            refine ⟨F, env, S, M _ _ _ _ _ _ q (ko.px σ) fun u env1 q1 v F1 H1 s1 S1 r1 => ?_⟩
            obtain ⟨d, e1, q2⟩ := optP_get q1
            obtain ⟨F2, s2, S2, r2⟩ := RU.fz S1 r1 e1
            exact ⟨F2, env1, d, S2, r2, bindT_mono q2 fun e q σ' S' _ => ko.nx _ q _ F2 H1 (s1.trans s2) S'⟩
        | _ => cases h
  | _ => cases h
theorem notSlice {cc : CC} {m : M} {e : Expr} (h : chkE n cc m e = true) : ∀ l u s p, e ≠ .Slice l u s p := by
  rintro l u s p rfl
  cases n with
  | zero => cases h
  | succ n => cases m with
    | bi b as => cases b <;> cases h
    | _ => cases h
/-- o[i] = d at an own list -/
theorem set_own {K : PySem.W.Frag} {F H F0 : Hp} {σ : L2.St} {env : Env} {i : Nat} {xs ys : List D} {y d : D} {oi : Op} {vo vi v : V} {Qf : Hp → Prop} (S : SR K Z F H σ env) (s : Same F0 F) (ho : σ[i]? = some (some vo)) (ri : RO F0 σ vi oi) (rv : Rep F v d) (e1 : rdv env oi = some y) (e2 : cellOf env i = some xs) (e3 : setAt xs y d = some ys)
    (f : ∀ H', SR K Z F H' σ (putR env i (.r ys)) → Qf H') : rSetL vo vi v H Qf := by
  obtain ⟨a, vs, ha, hv, r, fa⟩ := S.cell e2
  rw [ho] at ha
  cases ha
  obtain ⟨k, j, hk, hj, r'⟩ := set_D (a := a) r rv (ri.rd S s e1) e3
  exact ⟨a, vs, k, j, rfl, hk, hv, hj, f _ (S.change e2 ho r')⟩
theorem snd_seti (ok : Ok Γ CT X W cc) (Z : Zt) {i : Nat} {ix e : M} {st : Stmt} (h : chkS (n + 1) cc (.seti i ix e) st = true) : PS X st (tS Γ CT X.K W Z (n + 1) (.seti i ix e)) := by
  have M := wpE_mono Γ n
  cases st with
  | Assign tgs v p =>
    cases tgs with
    | nil => cases h
    | cons a l => cases l with
      | cons b l => cases a with
        | Subscript o _ _ => cases o <;> cases h
        | _ => cases h
      | nil => cases a with
        | Subscript o ie sp => cases o with
          | Name x xp =>
            obtain ⟨h, h3⟩ := and_split (show (nameB cc i x && chkE n cc ix ie && chkE n cc e v) = true from h)
            obtain ⟨h1, h2⟩ := and_split h
            have ns := notSlice h2
            refine PS.imp (ps_asg (soundE Γ CT n cc X W ok Z e v h3) (pg_sub (pe_name ok h1) (snd_R (soundE Γ CT n) ok Z h2) set_list ?_) ?_ rfl rfl) ?_
            · intro v
              cases ie <;> first | rfl | exact absurd rfl (ns _ _ _ _)
            · cases v <;> rfl
            · rintro D σ H ⟨F, env, k, S, ko, q⟩
              rw [wpS_succ] at q
              unfold wpS1 at q
              dsimp only at q
              refine ⟨F, env, S, M _ _ _ _ _ _ q (ko.px σ) fun u env1 q1 v F1 H1 s1 S1 r1 => ?_⟩
              obtain ⟨d, e1, q2⟩ := optP_get q1
              obtain ⟨F2, s2, S2, r2⟩ := RU.fz S1 r1 e1
              obtain ⟨w, ew, q3⟩ := optP_get q2
              obtain ⟨vo, eo, _⟩ := S2.slot i w ew
              refine ⟨vo, eo, F2, env1, S2, wpR_mono M q3 ((ko.mono (s1.trans s2)).px σ) fun oi env2 q4 vi F3 H3 s3 S3 r3 => ?_⟩
              obtain ⟨y, ey, q5⟩ := optP_get q4
              obtain ⟨xs, ex, q6⟩ := optP_get q5
              obtain ⟨ys, es, q7⟩ := optP_get q6
              exact set_own S3 same_refl eo r3 (r2.mono s3) ey ex es fun H' S' => ko.nx _ q7 σ F3 H' ((s1.trans s2).trans s3) S'
          | _ => cases h
        | _ => cases h
  | _ => cases h
/-! a op= b -/
def rGetL (K : PySem.W.Frag) : V → V → Hp → VK → Prop := fun o i H Q => ∃ p xs k v, o = .ref p ∧ i = .int k ∧ SqL K H p xs ∧ atI xs k = some v ∧ Q v H
theorem get_listG : PGet X (rGetL X.K) := by
  intro pins s σ H o i ov iv Q I ro ri h
  obtain ⟨p, xs, k, w, rfl, rfl, sq, at_, fin⟩ := h
  cases ro
  obtain ⟨t, rfl⟩ := ri
  obtain ⟨its, rv, isl, _⟩ := I.list sq
  obtain ⟨j, ix, gx, jl, lo, hi⟩ := atI_get at_
  obtain ⟨u, gu, ru⟩ := rv.get gx
  have len := rv.length
  have big : xs.length < 2 ^ 63 := by have := line63; omega
  by_cases pos : 0 ≤ k
  · have kj : k.toNat = j := Option.some.inj ((seqIndex_of pos hi).symm.trans ix)
    exact wpAny_getItem_list isl.isList pos (by omega) (by rw [kj]; simpa using gu) ⟨w, H, I, ru, fin⟩
  · have kj : (k + (its.toArray.size : Int)).toNat = j := by
      have z := (seqIndex_neg (by omega) lo).symm.trans ix
      rw [List.size_toArray, ← len]
      exact Option.some.inj z
    exact wpAny_getItem_list_neg isl.isList (by omega) (by rw [List.size_toArray, ← len]; exact lo) (by omega) (by rw [kj]; simpa using gu) ⟨w, H, I, ru, fin⟩
def ipF (op : BOp) (i j : Int) : Int := match op with
  | .sub => i - j
  | _ => i + j
theorem ip_op {op : BOp} {o : Operator} (h : augB op o = true) : PIp X o (ipI (ipF op)) ∧ ∀ i j r, binD op (.int i) (.int j) = some r → r = .v (.int (ipF op i j)) := by
  cases op <;> cases o <;> first
    | (cases h; done)
    | exact ⟨ip_add, fun i j r e => by cases e; rfl⟩
    | exact ⟨ip_sub, fun i j r e => by cases e; rfl⟩
theorem intD_some {d : D} {i : Int} (h : intD d = some i) : d = .int i := by
  cases d <;> first | (cases h; rfl) | cases h
theorem snd_aug (ok : Ok Γ CT X W cc) (Z : Zt) {i : Nat} {op : BOp} {e : M} {st : Stmt} (h : chkS (n + 1) cc (.aug i op e) st = true) : PS X st (tS Γ CT X.K W Z (n + 1) (.aug i op e)) := by
  have M := wpE_mono Γ n
  cases st with
  | AugAssign tg o v p =>
    cases tg with
    | Name x xp =>
      obtain ⟨h, h4⟩ := and_split (show (augB op o && decide (cc.N[i]? = some x) && cc.st x && chkE n cc e v) = true from h)
      obtain ⟨h, h3⟩ := and_split h
      obtain ⟨h1, h2⟩ := and_split h
      obtain ⟨hp, hr⟩ := ip_op (X := X) h1
      obtain ⟨l1, l2⟩ := ok.st x h3
      refine PS.imp (ps_aug ok.nd (at_len ok h2) l1 (snd_R (soundE Γ CT n) ok Z h4) hp l2) ?_
      rintro D σ H ⟨F, env, k, S, ko, q⟩
      rw [wpS_succ] at q
      unfold wpS1 at q
      dsimp only at q
      obtain ⟨w, ew, q1⟩ := optP_get q
      obtain ⟨vo, eo, _⟩ := S.slot i w ew
      refine ⟨vo, eo, F, env, S, wpR_mono M q1 (ko.px σ) fun oe env1 q2 y F1 H1 s1 S1 r1 => ?_⟩
      obtain ⟨dx, ex, q3⟩ := optP_get q2
      obtain ⟨dz, ez, q4⟩ := optP_get q3
      obtain ⟨a, ea, q5⟩ := optP_get q4
      obtain ⟨b, eb, q6⟩ := optP_get q5
      obtain ⟨r, er, q7⟩ := optP_get q6
      obtain ⟨c, q8⟩ := ckP_get q7
      have e1 := intD_some ea
      have e2 := intD_some eb
      subst e1 e2
      have hx : RO F1 σ vo (.var i) := eo
      have hv := (hx.rd S1 same_refl ex).int
      have hy := (r1.rd S1 same_refl ez).int
      have e3 := hr a b r er
      subst e3
      exact ⟨a, b, hv, hy, ko.nx _ q8 _ F1 H1 s1 (S1.store' c trivial (.int _))⟩
    | _ => cases h
  | _ => cases h
theorem snd_augi (ok : Ok Γ CT X W cc) (Z : Zt) {i : Nat} {ix : M} {op : BOp} {e : M} {st : Stmt} (h : chkS (n + 1) cc (.augi i ix op e) st = true) : PS X st (tS Γ CT X.K W Z (n + 1) (.augi i ix op e)) := by
  have M := wpE_mono Γ n
  cases st with
  | AugAssign tg o v p =>
    cases tg with
    | Subscript oo ie sp => cases oo with
      | Name x xp =>
        obtain ⟨h, h4⟩ := and_split (show (augB op o && nameB cc i x && chkE n cc ix ie && chkE n cc e v) = true from h)
        obtain ⟨h, h3⟩ := and_split h
        obtain ⟨h1, h2⟩ := and_split h
        obtain ⟨hp, hr⟩ := ip_op (X := X) h1
        have ns := notSlice h3
        refine PS.imp (ps_augS (pe_name ok h2) (snd_R (soundE Γ CT n) ok Z h3) get_listG (snd_R (soundE Γ CT n) ok Z h4) hp set_list ?_) ?_
        · intro ov iv new
          cases ie <;> first | rfl | exact absurd rfl (ns _ _ _ _)
        · rintro D σ H ⟨F, env, k, S, ko, q⟩
          rw [wpS_succ] at q
          unfold wpS1 at q
          dsimp only at q
          obtain ⟨w, ew, q1⟩ := optP_get q
          obtain ⟨vo, eo, _⟩ := S.slot i w ew
          refine ⟨vo, eo, F, env, S, wpR_mono M q1 (ko.px σ) fun oi env1 q2 vi F1 H1 s1 S1 r1 => ?_⟩
          obtain ⟨y, ey, q3⟩ := optP_get q2
          obtain ⟨xs, ex, q4⟩ := optP_get q3
          obtain ⟨dx, ed, q5⟩ := optP_get q4
          obtain ⟨a, vs, ha, hv, rv, fa⟩ := S1.cell ex
          rw [eo] at ha
          cases ha
          have ry := r1.rd S1 same_refl ey
          cases y with
          | int kk =>
            obtain ⟨wv, g1, g2⟩ := rv.atI ed
            refine ⟨a, vs, kk, wv, rfl, ry.int, SqL.of hv, g1, F1, env1, S1, wpR_mono M q5 ((ko.mono s1).px σ) fun oe env2 q6 ve F2 H2 s2 S2 r2 => ?_⟩
            obtain ⟨dz, ez, q7⟩ := optP_get q6
            obtain ⟨y2, ey2, q8⟩ := optP_get q7
            obtain ⟨ia, ea, q9⟩ := optP_get q8
            obtain ⟨ib, eb, q10⟩ := optP_get q9
            obtain ⟨r, er, q11⟩ := optP_get q10
            obtain ⟨d, efz, q12⟩ := optP_get q11
            obtain ⟨xs2, ex2, q13⟩ := optP_get q12
            obtain ⟨ys, es, q14⟩ := optP_get q13
            have e1 := intD_some ea
            have e2 := intD_some eb
            subst e1 e2
            have e3 := hr _ _ _ er
            subst e3
            cases efz
            have hw : wv = .int ia := by cases g2; rfl
            subst hw
            refine ⟨ia, ib, rfl, (r2.rd S2 same_refl ez).int, ?_⟩
            exact set_own S2 s2 eo r1 (.int _) ey2 ex2 es fun H' S' => ko.nx _ q14 σ F2 H' (s1.trans s2) S'
          | _ => cases ed
      | _ => cases h
    | _ => cases h
  | _ => cases h
theorem sw_two {x y : Str} {px py : Pos} {a b : Expr} {kt : Nat} {pt : Pos} {k2 : Nat} {p2 : Pos} {env : PySem.Env} (hk : env.scope.kind = .function) (h1 : env.scope.names.lookup x = some .local) (h2 : env.scope.names.lookup y = some .local) (hl : (py.line == px.line) = true)
    (hn : (x == y) = false) (sa : starB a = false) (sb : starB b = false) (hf : [a, b].all (foldedForSure 8) = false) (hc : [a, b].all (constantsAlone 8) = false) : swappedStores [.Tuple [.Name x px, .Name y py] kt pt] (.Tuple [a, b] k2 p2) env = pure (some [x, y]) := by
  have kx : env.kindOf x = some .local := h1
  have ky : env.kindOf y = some .local := h2
  have hb : env.blockKind = .function := by unfold Env.blockKind; rw [hk]; rfl
  have hxy : py.line = px.line := eq_of_beq hl
  have hyx : (y == x) = false := by
    cases q : y == x with
    | false => rfl
    | true => rw [eq_of_beq q] at hn; simp at hn
  have fm : ∀ (f : Expr → Option Str), f (.Name x px) = some x → f (.Name y py) = some y → [Expr.Name x px, .Name y py].filterMap f = [x, y] := fun f e1 e2 => by simp [e1, e2]
  have er : [x, y].eraseDups = [x, y] := by simp [List.eraseDups, List.eraseDupsBy, List.eraseDupsBy.loop, hyx]
  unfold swappedStores
  dsimp only
  rw [fm _ (by simp [kx, Expr.pos]) (by simp [ky, Expr.pos, hxy])]
  rw [er, hf, hc, hb]
  split
  · rename_i hz; simp at hz
  · split
    · rename_i hz
      exfalso
      cases a <;> cases b <;> first | (cases sa; done) | (cases sb; done) | (simp at hz; done)
    · split
      · rename_i hz; simp at hz
      · rfl
theorem snd_par (ok : Ok Γ CT X W cc) (Z : Zt) {i j : Nat} {a b : M} {st : Stmt} (h : chkS (n + 1) cc (.par i j a b) st = true) : PS X st (tS Γ CT X.K W Z (n + 1) (.par i j a b)) := by
  have M := wpE_mono Γ n
  cases st with
  | Assign tgs v p =>
    match tgs, v, h with
    | [.Tuple [.Name x px, .Name y py] kt pt], .Tuple [va, vb] k2 p2, h =>
      obtain ⟨h, h5⟩ := and_split (show (decide (cc.N[i]? = some x) && decide (cc.N[j]? = some y) && chkE n cc a va && chkE n cc b vb && parV cc x y px py va vb) = true from h)
      obtain ⟨h, h4⟩ := and_split h
      obtain ⟨h, h3⟩ := and_split h
      obtain ⟨h1, h2⟩ := and_split h
      obtain ⟨h5, k9⟩ := and_split h5
      obtain ⟨h5, k8⟩ := and_split h5
      obtain ⟨h5, k7⟩ := and_split h5
      obtain ⟨h5, k6⟩ := and_split h5
      obtain ⟨h5, k5⟩ := and_split h5
      obtain ⟨h5, k4⟩ := and_split h5
      obtain ⟨h5, k3⟩ := and_split h5
      obtain ⟨k1, k2'⟩ := and_split h5
      have hi := at_len ok h1
      have hj := at_len ok h2
      have hij : i ≠ j := fun z => by
        subst z
        rw [hi] at hj
        have e : x = y := by injection hj
        rw [e] at k5
        simp at k5
      have lx : X.env.scope.names.lookup x = some .local := by rw [ok.sc]; exact of_decide_eq_true k2'
      have ly : X.env.scope.names.lookup y = some .local := by rw [ok.sc]; exact of_decide_eq_true k3
      have hk : X.env.scope.kind = .function := by rw [ok.sc]; exact fun_of k1
      have hc : chkL (chkE n cc) [a, b] [va, vb] = true := by
        show (chkE n cc a va && (chkE n cc b vb && true)) = true
        rw [h3, h4]; rfl
      refine PS.imp (ps_par ok.calm ok.nd hi hj hij lx ly (snd_Vs (soundE Γ CT n) ok Z hc) (sw_two hk lx ly k4 (not_true k5) (not_true k6) (not_true k7) (not_true k8) (not_true k9)) rfl) ?_
      rintro D σ H ⟨F, env, k, S, ko, q⟩
      rw [wpS_succ] at q
      unfold wpS1 at q
      dsimp only at q
      refine ⟨F, env, S, wpVs_mono M q (ko.px σ) fun ds env1 q1 vs F1 H1 s1 S1 r1 => ?_⟩
      match ds, r1, q1 with
      | [dx, dy], .cons rx (.cons ry .nil), q1 =>
        obtain ⟨⟨c1, c2⟩, q2⟩ := ckP_get q1
        have c3 : asgOk (put env1 i (some (.v dx))) j := by
          unfold asgOk
          rw [get_put_ne hij]
          exact c2
        exact ⟨_, _, rfl, ko.nx _ q2 _ F1 H1 s1 ((S1.store' (u := .v dx) c1 trivial rx).store' (u := .v dy) c3 trivial ry)⟩
      | [], _, q1 => exact q1.elim
      | [_], _, q1 => exact q1.elim
      | _ :: _ :: _ :: _, _, q1 => exact q1.elim
  | _ => cases h
theorem snd_while (IH : SoundS Γ CT n) (ok : Ok Γ CT X W cc) (Z : Zt) {c : M} {b : List S} {st : Stmt} (h : chkS (n + 1) cc (.whl c b) st = true) : PS X st (tS Γ CT X.K W Z (n + 1) (.whl c b)) := by
  have M := wpE_mono Γ n
  cases st with
  | While t x orelse p =>
    cases orelse with
    | cons _ _ => cases h
    | nil =>
      obtain ⟨h1, h2⟩ := and_split (show (chkT (chkE n cc) n c t && chkSs (chkS n cc) b x) = true from h)
      refine PS.imp (ps_while ok.po (snd_T (fun k _ => soundE Γ CT k) ok Z h1) (snd_Ss IH ok Z h2)) ?_
      rintro D σ H ⟨F, env, k, S, ko, q⟩
      rw [wpS_succ] at q
      unfold wpS1 at q
      dsimp only at q
      unfold whileP at q
      obtain ⟨N, q⟩ := q
      let step : Env → (Env → Prop) → Prop := fun e nx => wpT (wpE Γ n) n c e k.ex fun t e1 => brP t (wpSs (wpS Γ n) b e1 { k with nx := nx, ct := nx, bk := k.nx }) (k.nx e1)
      let Iv : Nat → L2.St → Hp → Prop := fun m σ H => ∃ F1 e, Same F F1 ∧ SR X.K Z F1 H σ e ∧ whileN step m e
      refine ⟨Iv, ⟨N, F, env, same_refl, S, q⟩, ?_⟩
      rintro m σ1 H1 ⟨F1, e1, s1, S1, q1⟩
      cases m with
      | zero => exact q1.elim
      | succ m =>
        have q2 : wpT (wpE Γ n) n c e1 k.ex fun t e2 => brP t (wpSs (wpS Γ n) b e2 { k with nx := whileN step m, ct := whileN step m, bk := k.nx }) (k.nx e2) := q1
        refine ⟨F1, e1, S1, wpT_mono M q2 ((ko.mono s1).px σ1) ?_⟩
        intro t e2 q3 F2 H2 s2 S2
        obtain ⟨qt, qf⟩ := brP_get q3
        cases t with
        | false => rw [if_neg Bool.false_ne_true]; exact ko.nx _ (qf rfl) _ F2 H2 (s1.trans s2) S2
        | true =>
          rw [if_pos rfl]
          refine ⟨Iv m, fun σ' H' z => ⟨m, Nat.lt_succ_self m, z⟩, F2, e2, _, S2, ?_, qt rfl⟩
          have s12 := s1.trans s2
          exact ⟨fun e z σ' F' H' s' S' => ⟨F', e, s12.trans s', S', z⟩, fun e z σ' F' H' s' S' => ko.nx e z σ' F' H' (s12.trans s') S', fun e z σ' F' H' s' S' => ⟨F', e, s12.trans s', S', z⟩, (ko.mono s12).rt, (ko.mono s12).ex⟩
  | _ => cases h
theorem snd_for (IH : SoundS Γ CT n) (ok : Ok Γ CT X W cc) (Z : Zt) {t : T} {it : M} {b : List S} {st : Stmt} (h : chkS (n + 1) cc (.for_ t it b) st = true) : PS X st (tS Γ CT X.K W Z (n + 1) (.for_ t it b)) := by
  have M := wpE_mono Γ n
  cases st with
  | For tg iter x orelse p =>
    cases orelse with
    | cons _ _ => cases h
    | nil =>
      obtain ⟨h, h3⟩ := and_split (show (chkI cc (chkE n cc) tg it iter && chkG cc n t tg && chkSs (chkS n cc) b x) = true from h)
      obtain ⟨h1, h2⟩ := and_split h
      obtain ⟨pi, ns⟩ := snd_I (tg := tg) (soundE Γ CT n) ok Z h1
      refine PS.imp (ps_for ok.po ok.calm pi (snd_G ok Z h2) (snd_Ss IH ok Z h3) (fold_ok ns)) ?_
      rintro D σ H ⟨F, env, k, S, ko, q⟩
      rw [wpS_succ] at q
      unfold wpS1 at q
      dsimp only at q
      refine ⟨F, env, S, wpI_mono M q (ko.px σ) fun ds env1 q1 J F1 H1 s1 S1 wk => ?_⟩
      unfold forP at q1
      let step : PyData → Env → (Env → Prop) → Prop := fun x e nx => bindT n t x e fun e1 => wpSs (wpS Γ n) b e1 { k with nx := nx, ct := nx, bk := k.nx }
      let Iv : Nat → Nat → L2.St → Hp → Prop := fun i m σ H => m = ds.length - i ∧ i ≤ ds.length ∧ ∃ F2 e, Same F1 F2 ∧ SR X.K Z F2 H σ e ∧ forL step (ds.drop i) e k.nx
      refine ⟨Iv, ⟨_, rfl, Nat.zero_le _, F1, env1, same_refl, S1, q1⟩, ?_⟩
      rintro i m σ2 H2 ⟨rfl, hi, F2, e2, s2, S2, q3⟩
      by_cases hlt : i < ds.length
      · refine .inr ⟨((wk F2 H2 s2 S2.le).1 i hlt).1, Iv (i + 1) (ds.length - (i + 1)), fun σ' H' z => ⟨_, by omega, z⟩, fun x H3 y => ?_⟩
        obtain ⟨F3, d, g3, hd, rd⟩ := ((wk F2 H2 s2 S2.le).1 i hlt).2 x H3 y
        have hd' : ds.drop i = d :: ds.drop (i + 1) := by
          obtain ⟨h1, h2⟩ := List.getElem?_eq_some_iff.mp hd
          rw [List.drop_eq_getElem_cons h1, h2]
        rw [hd'] at q3
        have q4 : step d e2 fun e' => forL step (ds.drop (i + 1)) e' k.nx := q3
        refine ⟨F3, e2, d, S2.grow g3, rd, bindT_mono q4 fun e4 q5 σ4 S4 _ => ⟨F3, e4, _, S4, ?_, q5⟩⟩
        have s13 := s2.trans g3.f
        have s03 := s1.trans s13
        exact ⟨fun e z σ' F' H' s' S' => ⟨rfl, hlt, F', e, s13.trans s', S', z⟩, fun e z σ' F' H' s' S' => ko.nx e z σ' F' H' (s03.trans s') S', fun e z σ' F' H' s' S' => ⟨rfl, hlt, F', e, s13.trans s', S', z⟩, (ko.mono s03).rt, (ko.mono s03).ex⟩
      · refine .inl ⟨(wk F2 H2 s2 S2.le).2 i (by omega), ?_⟩
        rw [List.drop_eq_nil_of_le (by omega)] at q3
        exact ko.nx _ q3 _ F2 H2 (s1.trans s2) S2
  | _ => cases h
/-- a slot is handed out -/
theorem ret_slot {K : PySem.W.Frag} {F H : Hp} {σ : L2.St} {env : Env} {i : Nat} {p : U × Env} (S : SR K Z F H σ env) (hX : Z.X i = none) (e : retV env i = some p) : ∃ v, σ[i]? = some (some v) ∧ SR K Z F H σ p.2 ∧ RU Z F H σ p.2 v p.1 := by
  unfold retV at e
  cases q : get env i with
  | none => rw [q] at e; cases e
  | some u =>
    rw [q] at e
    obtain ⟨v, e1, r⟩ := S.slot i u q
    cases u with
    | v d => cases e; exact ⟨v, e1, S, r⟩
    | o xs =>
      cases e
      obtain ⟨a, vs, rfl, h1, h2, h3, h4, h5⟩ := r
      refine ⟨_, e1, S.forget' hX, a, vs, rfl, h1, h2, h3, h4, h5, fun j oj z => ?_⟩
      rcases oj.put with ⟨_, ⟨_, z⟩ | ⟨_, z⟩⟩ | ⟨nj, oj⟩
      · cases z
      · cases z
      · exact S.dis i j a nj (.inl ⟨xs, q⟩) oj e1 z
    | r xs => cases e
    | s ns => cases e
    | x c fs => cases e
theorem snd_ret (ok : Ok Γ CT X W cc) (Z : Zt) {e : M} {st : Stmt} (h : chkS (n + 1) cc (.ret e) st = true) : PS X st (tS Γ CT X.K W Z (n + 1) (.ret e)) := by
  have M := wpE_mono Γ n
  cases st with
  | Return ov p =>
    cases ov with
    | none => cases h
    | some v =>
      have hE : chkE n cc e v = true := h
      by_cases hv : ∃ i, e = .var i
      · obtain ⟨i, rfl⟩ := hv
        cases n with
        | zero => cases hE
        | succ n =>
          cases v with
          | Name x xp =>
            refine PS.imp (ps_ret (pe_name ok (i := i) hE)) ?_
            rintro D σ H ⟨F, env, k, S, ko, q⟩
            rw [wpS_succ] at q
            unfold wpS1 at q
            dsimp only at q
            obtain ⟨⟨u, env1⟩, e1, q1⟩ := optP_get q
            have hX : Z.X i = none := by
              cases z : Z.X i with
              | none => rfl
              | some a =>
                obtain ⟨⟨xs, g⟩, _⟩ := S.ref i a z
                unfold retV at e1
                rw [g] at e1
                cases e1
            obtain ⟨v, ev, S1, r1⟩ := ret_slot S hX e1
            exact ⟨v, ev, ko.rt u env1 q1 v σ F H same_refl S1 r1⟩
          | _ => cases hE
      · refine PS.imp (ps_ret (soundE Γ CT n cc X W ok Z e v hE)) ?_
        rintro D σ H ⟨F, env, k, S, ko, q⟩
        have q' : wpE Γ n e env k.ex fun u env1 => ckP (storable u) (k.rt u env1) := by
          cases e <;> first | exact q | exact absurd ⟨_, rfl⟩ hv
        refine ⟨F, env, S, M _ _ _ _ _ _ q' (ko.px σ) fun u env1 q1 v F1 H1 s1 S1 r1 => ?_⟩
        obtain ⟨_, q2⟩ := ckP_get q1
        exact ko.rt u env1 q2 v σ F1 H1 s1 S1 r1
  | _ => cases h
theorem snd_ite (IH : SoundS Γ CT n) (ok : Ok Γ CT X W cc) (Z : Zt) {c : M} {a b : List S} {st : Stmt} (h : chkS (n + 1) cc (.ite c a b) st = true) : PS X st (tS Γ CT X.K W Z (n + 1) (.ite c a b)) := by
  have M := wpE_mono Γ n
  cases st with
  | If t x y p =>
    obtain ⟨h, h3⟩ := and_split (show (chkT (chkE n cc) n c t && chkSs (chkS n cc) a x && chkSs (chkS n cc) b y) = true from h)
    obtain ⟨h1, h2⟩ := and_split h
    refine PS.imp (ps_if (snd_T (fun k _ => soundE Γ CT k) ok Z h1) (snd_Ss IH ok Z h2) (snd_Ss IH ok Z h3)) ?_
    rintro D σ H ⟨F, env, k, S, ko, q⟩
    rw [wpS_succ] at q
    unfold wpS1 at q
    dsimp only at q
    refine ⟨F, env, S, wpT_mono M q (ko.px σ) ?_⟩
    intro t e1 q1 F1 H1 s1 S1
    obtain ⟨qt, qf⟩ := brP_get q1
    cases t with
    | true => rw [if_pos rfl]; exact ⟨F1, e1, k, S1, ko.mono s1, qt rfl⟩
    | false => rw [if_neg Bool.false_ne_true]; exact ⟨F1, e1, k, S1, ko.mono s1, qf rfl⟩
  | _ => cases h
theorem snd_exp (ok : Ok Γ CT X W cc) (Z : Zt) {e : M} {st : Stmt} (h : chkS (n + 1) cc (.exp e) st = true) : PS X st (tS Γ CT X.K W Z (n + 1) (.exp e)) := by
  have M := wpE_mono Γ n
  cases st with
  | Expr v p =>
    obtain ⟨h1, h2⟩ := and_split (show (chkE n cc e v && !isComp v) = true from h)
    refine PS.imp (ps_expr (soundE Γ CT n cc X W ok Z e v h1) ?_) ?_
    · cases v <;> first | rfl | cases h2
    · rintro D σ H ⟨F, env, k, S, ko, q⟩
      rw [wpS_succ] at q
      unfold wpS1 at q
      dsimp only at q
      exact ⟨F, env, S, M _ _ _ _ _ _ q (ko.px σ) fun u env1 q1 v F1 H1 s1 S1 r1 => ko.nx _ q1 σ F1 H1 s1 S1⟩
  | _ => cases h
theorem chk_rse {c : Nat} {ns : List Str} {as : List M} {st : Stmt} (h : chkS (n + 1) cc (.rse c ns as) st = true) : ∃ x xp e es p pos, st = .Raise (some (.Call (.Name x xp) (e :: es) [] p)) none pos ∧ (decide ((c, x, ns) ∈ cc.excs) && gloB cc x && chkL (chkE n cc) as (e :: es) && decide (ns.length = as.length)) = true := by
  unfold chkS at h
  dsimp only at h
  split at h
  · exact ⟨_, _, _, _, _, _, rfl, h⟩
  · cases h
theorem chk_tri {b : List S} {c i : Nat} {hs : List HS} {st : Stmt} (h : chkS (n + 1) cc (.tri b c i hs) st = true) : ∃ body x np nm s0 su hp pos, st = .Try body [.ExceptHandler (some (.Name x np)) (some nm) (s0 :: su) hp] [] [] pos ∧ (decide ((c, x) ∈ cc.cats) && gloB cc x && decide (cc.N[i]? = some nm) && decide (cc.sc.names.lookup nm = some .local) && chkSs (chkS n cc) b body && chkHSs (chkHS cc i n) hs (s0 :: su) && cc.top) = true := by
  unfold chkS at h
  dsimp only at h
  split at h
  · exact ⟨_, _, _, _, _, _, _, _, rfl, h⟩
  · cases h
theorem snd_rse (ok : Ok Γ CT X W cc) (Z : Zt) {c : Nat} {ns : List Str} {as : List M} {st : Stmt} (h : chkS (n + 1) cc (.rse c ns as) st = true) : PS X st (tS Γ CT X.K W Z (n + 1) (.rse c ns as)) := by
  obtain ⟨x, xp, e, es, p, pos, rfl, h⟩ := chk_rse h
  · obtain ⟨h, h4⟩ := and_split h
    obtain ⟨h, h3⟩ := and_split h
    obtain ⟨h1, h2⟩ := and_split h
    obtain ⟨gl, gd⟩ := ok.gl h2
    obtain ⟨C, k, e1, gC, kC, rs, mk, hr⟩ := ok.exs c x ns (of_decide_eq_true h1)
    have hl := of_decide_eq_true h4
    have st0 : starEach (e :: es) X.env = (false, eval e X.env) :: starEach es X.env ∧ (backTo p (starEach es X.env)).any (·.1) = false := by
      cases as with
      | nil => cases h3
      | cons m ms =>
        obtain ⟨k1, k2⟩ := and_split h3
        exact ⟨chk_star k1 [] es _, noStar (fun m e he es => chk_star he [] es _) k2⟩
    refine PS.imp (ps_raise ok.calm ok.tk (pmk_err hr mk gC kC rs (snd_Vs (soundE Γ CT n) ok Z h3) gl gd st0.1 st0.2)) ?_
    rintro D σ H ⟨F, env, k, S, ko, q⟩
    rw [wpS_succ] at q
    unfold wpS1 at q
    dsimp only at q
    refine ⟨F, env, S, wpVs_mono (wpE_mono Γ n) (wpVs_len (wpE_mono Γ n) q) (ko.px σ) fun ds env1 ⟨el, q1⟩ vs F1 H1 s1 S1 r1 => ⟨by rw [r1.length, el, hl], fun d hd => ?_⟩⟩
    have fd := noneF S1.le hd
    have g := Grow.froz (o := .xd (ns.zip vs)) S1.le hd
    exact ko.ex _ _ q1 σ _ _ _ _ (s1.trans g.f) (S1.grow g) ⟨C, ns, d, vs, ds, e1, rfl, rfl, upd_same, r1.mono g.f, by rw [r1.length, el, hl], rfl⟩
theorem ok_tr (ok : Ok Γ CT X W cc) {pn : List (Addr × Obj)} {xe : Value → Shared → Prop} {W' : WX} (tk : Takes (X.tr pn xe) W') (po : PassesOwn (model X.prog X.w) X.A X.env xe) : Ok Γ CT (X.tr pn xe) W' cc where
  n := ok.n
  nd := ok.nd
  sc := ok.sc
  st := ok.st
  calm := ok.calm
  tk := tk
  po := po
  un := ok.un
  blt := ok.blt
  gcd := ok.gcd
  lcm := ok.lcm
  cons := ok.cons
  fns := fun f S h => ⟨(ok.fns f S h).ex⟩
  full := ok.full
  frm := ok.frm
  xc := ok.xc
  cat := ok.cat
  exs := ok.exs
theorem snd_tri (IH : SoundS Γ CT n) (ok : Ok Γ CT X W cc) (Z : Zt) {b : List S} {c i : Nat} {hs : List HS} {st : Stmt} (h : chkS (n + 1) cc (.tri b c i hs) st = true) : PS X st (tS Γ CT X.K W Z (n + 1) (.tri b c i hs)) := by
  obtain ⟨body, x, np, nm, s0, su, hp, pos, rfl, h⟩ := chk_tri h
  · obtain ⟨h, h7⟩ := and_split h
    obtain ⟨h, h6⟩ := and_split h
    obtain ⟨h, h5⟩ := and_split h
    obtain ⟨h, h4⟩ := and_split h
    obtain ⟨h, h3⟩ := and_split h
    obtain ⟨h1, h2⟩ := and_split h
    obtain ⟨gl, gd⟩ := ok.gl h2
    obtain ⟨D0, cn, fact⟩ := ok.cat c x (of_decide_eq_true h1)
    have nms : Names X x D0 := by
      refine ⟨gl, gd, ?_⟩
      rcases cn with ⟨A, rfl, hm⟩ | ⟨T, rfl, hm, hb, hn⟩
      · exact .inl hm
      · exact .inr ⟨hm, hb, hn⟩
    have hi := at_len ok h3
    have hln : X.env.kindOf nm = some .local := by
      show X.env.scope.names.lookup nm = _
      rw [ok.sc]; exact of_decide_eq_true h4
    obtain ⟨f1, f2⟩ := ok.frm h7
    refine PS.imp (ps_try_as (i := i) (tb := fun W' => tSs Γ CT X.K W' Z n b) (ts := fun a cls d => tHSs CT i a cls d hs) (Wout := W) f1 f2 ok.nd hi hln nms ok.tk (fun W' pn xe tk po => snd_Ss IH (ok_tr ok tk po) Z h5)
      (fun a oe cls d pn hz hf => snd_HSs (snd_HS ok hz hf hi n) hs (s0 :: su) h6)) ?_
    rintro D σ H ⟨F, env, k, S, ko, q⟩
    rw [wpS_succ] at q
    unfold wpS1 at q
    dsimp only at q
    refine ⟨F, env, _, S, ?_, q⟩
    refine ⟨ko.nx, ko.bk, ko.ct, ko.rt, ?_⟩
    intro y env' hx σ' cls d F' H' s' S' xr
    obtain ⟨qt, qf⟩ := brP_get hx
    have xr0 := xr
    obtain ⟨C, ns, dx, vs, ds, e1, e2, e3, e4, e5, e6, e7⟩ := xr0
    refine ⟨subX y.c c, by rw [e2]; exact (fact _ _ _ e1).1, fun hb a ha => ?_, fun hb => ko.ex y env' (qf hb) σ' _ _ F' H' s' S' xr⟩
    obtain ⟨r, er, q1⟩ := optP_get (qt hb)
    obtain ⟨pl, q2⟩ := ckP_get q1
    have hX : Z.X i = none := S'.plain pl
    have back : ∀ {F2 H2}, Grow F' H' F2 H2 → SR X.K Z F2 H2 σ' (put env' i none) := fun g => (S'.grow g).forget' hX
    refine ⟨F', y, ⟨S'.le, ⟨σ', rfl⟩, xr⟩, r, er, ?_⟩
    cases r with
    | some w => exact fun v F2 H2 g rv => ko.rt (.v w) _ q2 v σ' F2 H2 (s'.trans g.f) (back g) rv
    | none =>
      intro F2 H2 g
      have e0 : (σ'.set i (some (.ref a))).set i none = σ'.set i none := List.set_set ..
      show D.nx ((σ'.set i (some (.ref a))).set i none) H2
      rw [e0]
      have w := (S'.grow g).wipes (is := [i]) (fun j hj => by rw [List.mem_singleton.mp hj]; exact hX)
      exact ko.nx _ q2 (σ'.set i none) F2 H2 (s'.trans g.f) w
/-- all statements -/
theorem soundS (Γ : Nat → Option FS) (CT : CTab) : ∀ n, SoundS Γ CT n
  | 0 => by intro cc X W ok Z s st h; cases h
  | n + 1 => by
    have IH := soundS Γ CT n
    intro cc X W ok Z s st h
    have simple : ∀ {Pq : GM.K → Env → Prop} {t : TS}, PS X st t → (∀ env k, wpS Γ (n + 1) s env k → Pq k env) → (∀ D σ H F env k, SR X.K Z F H σ env → KOk CT X.K W Z F D k → Pq k env → t D σ H) → PS X st (tS Γ CT X.K W Z (n + 1) s) := fun {Pq t} h1 h2 h3 =>
      PS.imp h1 fun D σ H ⟨F, env, k, S, ko, q⟩ => h3 D σ H F env k S ko (h2 env k q)
    cases s with
    | asg t e => cases t with
      | nm i => exact snd_asg ok Z h
      | tp ts => exact snd_asgT ok Z h
    | seti i ix e => exact snd_seti ok Z h
    | augi i ix op e => exact snd_augi ok Z h
    | aug i op e => exact snd_aug ok Z h
    | par i j a b => exact snd_par ok Z h
    | ite c a b => exact snd_ite IH ok Z h
    | whl c b => exact snd_while IH ok Z h
    | for_ t it b => exact snd_for IH ok Z h
    | ret e => exact snd_ret ok Z h
    | ret0 =>
      cases st with
      | Return ov p => cases ov with
        | none => exact PS.imp ps_retN fun D σ H ⟨F, env, k, S, ko, q⟩ => ko.rt _ _ q .non σ F H same_refl S .non
        | some v => cases h
      | _ => cases h
    | exp e => exact snd_exp ok Z h
    | brk => cases st with
      | Break p => exact PS.imp ps_break fun D σ H ⟨F, env, k, S, ko, q⟩ => ko.bk _ q σ F H same_refl S
      | _ => cases h
    | cnt => cases st with
      | Continue p => exact PS.imp ps_continue fun D σ H ⟨F, env, k, S, ko, q⟩ => ko.ct _ q σ F H same_refl S
      | _ => cases h
    | pas => cases st with
      | Pass p => exact PS.imp ps_pass fun D σ H ⟨F, env, k, S, ko, q⟩ => ko.nx _ q σ F H same_refl S
      | Expr v p => cases v with
        | Constant c j pos => cases c with
          | str x => exact PS.imp ps_doc fun D σ H ⟨F, env, k, S, ko, q⟩ => ko.nx _ q σ F H same_refl S
          | _ => cases h
        | _ => cases h
      | _ => cases h
    | rse c ns as => exact snd_rse ok Z h
    | tri b c i hs => exact snd_tri IH ok Z h
end
end GM

set_option maxRecDepth 100000
/-! GM: defs keep their promises -/
namespace GM
open PySem PySem.Spec PyProof.Rows L2
theorem pair_len {α β : Type} {R : α → β → Prop} : ∀ {xs : List α} {ys : List β}, Paired R xs ys → xs.length = ys.length
  | _, _, .nil => rfl
  | _, _, .cons _ t => by simp [pair_len t]
theorem pair_getL {α β : Type} {R : α → β → Prop} : ∀ {xs : List α} {ys : List β} {i : Nat} {x : α}, Paired R xs ys → xs[i]? = some x → ∃ y, ys[i]? = some y ∧ R x y
  | _, _, _, _, .nil, e => by simp at e
  | _, _, 0, _, .cons h _, e => by simp at e; subst e; exact ⟨_, rfl, h⟩
  | _, _, i + 1, y, .cons _ t, e => by
    obtain ⟨x, h1, h2⟩ := pair_getL (i := i) (x := y) t (by simpa using e)
    exact ⟨x, by simpa using h1, h2⟩
theorem get_at : ∀ (e : Env) (i : Nat), get e i = (e[i]?).bind id
  | [], _ => by simp [get]
  | u :: r, 0 => by simp [get]
  | u :: r, i + 1 => by simp [get, get_at r i]
theorem start_get {n : Nat} {us : List U} {i : Nat} {u : U} : get (GM.start n us) i = some u ↔ us[i]? = some u := by
  rw [get_at]
  unfold GM.start
  by_cases h : i < us.length
  · rw [List.getElem?_append_left (by simpa using h), List.getElem?_map, List.getElem?_eq_getElem h]
    simp
  · rw [List.getElem?_append_right (by simpa using h), List.getElem?_eq_none (by omega : us.length ≤ i)]
    rw [List.getElem?_replicate]
    split <;> simp
theorem start_at {N : List Str} {vs : List V} {i : Nat} {v : V} (h : vs[i]? = some v) : (L2.start N vs)[i]? = some (some v) := by
  unfold L2.start
  have hl := (List.getElem?_eq_some_iff.mp h).1
  rw [List.getElem?_append_left (by simpa using hl), List.getElem?_map, h]
  rfl
theorem fin_get : ∀ {us : List U} {env : Env} {i : Nat} {xs ys : List D}, us[i]? = some (.r xs) → get env i = some (.r ys) → (fin us env)[i]? = some (.r ys)
  | [], _, _, _, _, h, _ => by simp at h
  | u :: us, [], i, xs, ys, _, g => by simp [get] at g
  | u :: us, w :: env, 0, xs, ys, h, g => by
    simp at h
    subst h
    have g : w = some (.r ys) := g
    subst g
    rfl
  | u :: us, w :: env, i + 1, xs, ys, h, g => by
    have ih := fin_get (us := us) (env := env) (i := i) (xs := xs) (ys := ys) (by simpa using h) g
    cases u with
    | r zs =>
      cases w with
      | none => exact ih
      | some w => cases w <;> exact ih
    | _ => exact ih
open Classical in
noncomputable def refX (vs : List V) (us : List U) : Nat → Option Addr := fun i => if h : ∃ xs a, us[i]? = some (.r xs) ∧ vs[i]? = some (.ref a) then some h.choose_spec.choose else none
theorem refX_get {vs : List V} {us : List U} {i : Nat} {a : Addr} (h : refX vs us i = some a) : ∃ xs, us[i]? = some (.r xs) ∧ vs[i]? = some (.ref a) := by
  unfold refX at h
  split at h
  · rename_i hh
    have e := hh.choose_spec.choose_spec
    cases h
    exact ⟨_, e.1, e.2⟩
  · cases h
theorem refX_of {vs : List V} {us : List U} {i : Nat} {a : Addr} {xs : List D} (h1 : us[i]? = some (.r xs)) (h2 : vs[i]? = some (.ref a)) : refX vs us i = some a := by
  unfold refX
  have hh : ∃ xs a, us[i]? = some (.r xs) ∧ vs[i]? = some (.ref a) := ⟨xs, a, h1, h2⟩
  rw [dif_pos hh]
  have e2 := h2.symm.trans hh.choose_spec.choose_spec.2
  have e3 : V.ref a = V.ref hh.choose_spec.choose := by injection e2
  have e4 : a = hh.choose_spec.choose := by injection e3
  exact congrArg some e4.symm
noncomputable def entryZ (F H : Hp) (vs : List V) (us : List U) : Zt := ⟨F, Prot H vs us, fun b => H b = none, RefAt vs us, refX vs us⟩
theorem sub_prot (H : Hp) (vs : List V) (us : List U) : ∀ b o, Prot H vs us b = some o → H b = some o := fun b o h => by
  unfold Prot at h
  split at h
  · cases h
  · exact h
theorem entry_SR {K : PySem.W.Frag} {F H : Hp} {N : List Str} {vs : List V} {us : List U} (s : Same F H) (rel : Paired (ArgR K F H (Prot H vs us)) vs us) (ap : Apart vs us) : SR K (entryZ F H vs us) F H (L2.start N vs) (GM.start N.length us) := by
  have hl := pair_len rel
  have own : ∀ {i}, Own (GM.start N.length us) i → ∃ xs, us[i]? = some (.r xs) := fun {i} o => by
    rcases o with ⟨xs, g⟩ | ⟨xs, g⟩
    · rw [start_get] at g
      obtain ⟨v, _, r⟩ := pair_get rel g
      exact r.elim
    · rw [start_get] at g; exact ⟨xs, g⟩
  refine ⟨?_, s, sub_prot H vs us, same_refl, fun b h => .inl h, fun b h => h, fun i u g => ?_, fun i j a ne oi oj e1 e2 => ?_, fun i a h => ?_⟩
  · unfold GM.start L2.start
    simp [hl]
  · rw [start_get] at g
    obtain ⟨v, hv, r⟩ := pair_get rel g
    refine ⟨v, start_at hv, ?_⟩
    cases u with
    | v d => exact r
    | o xs => exact r.elim
    | r xs =>
      obtain ⟨a, ws, rfl, h1, h2, h3⟩ := r
      have hr : RefAt vs us a := ⟨i, xs, g, hv⟩
      exact ⟨a, ws, rfl, h1, h2, h3, hr, by show Prot H vs us a = none; unfold Prot; rw [if_pos hr]⟩
    | s ns =>
      obtain ⟨a, rfl, h1, h2⟩ := r
      refine ⟨a, rfl, h1, h2, fun hN => ?_⟩
      have hN : H a = none := hN
      rcases h1 with (h | ⟨o, h⟩) | h
      · rw [sub_prot H vs us _ _ h] at hN; cases hN
      · rw [sub_prot H vs us _ _ h] at hN; cases hN
      · exact .inr h
    | x c fs => exact r.elim
  · obtain ⟨xs, h1⟩ := own oi
    obtain ⟨ys, h2⟩ := own oj
    obtain ⟨v, hv, _⟩ := pair_get rel h1
    obtain ⟨w, hw, _⟩ := pair_get rel h2
    rw [start_at hv] at e1
    rw [start_at hw] at e2
    cases e1
    cases e2
    exact ap i j xs ys a ne h1 h2 hv hw
  · obtain ⟨xs, h1, h2⟩ := refX_get h
    exact ⟨⟨xs, start_get.mpr h1⟩, start_at h2⟩
theorem exit_After {K : PySem.W.Frag} {F H F' H' : Hp} {σ : L2.St} {env : Env} {vs : List V} {us : List U} (rel : Paired (ArgR K F H (Prot H vs us)) vs us) (S : SR K (entryZ F H vs us) F' H' σ env) : After F H F' H' vs us (fin us env) := by
  refine ⟨S.base, S.le, fun b h => ?_, fun b o h hn => ?_, fun i xs h => ?_⟩
  · rcases S.new b h with z | z
    · exact .inl z
    · exact .inr z.1
  · refine S.keep b o ?_
    show Prot H vs us b = some o
    unfold Prot
    rw [if_neg hn]
    exact h
  · obtain ⟨v, hv, a, ws, rfl, h1, h2, h3⟩ := pair_get rel h
    obtain ⟨⟨ys, g⟩, e⟩ := S.ref i a (refX_of h hv)
    obtain ⟨v', e', b, us', rfl, k1, k2, k3, _⟩ := S.slot i _ g
    rw [e] at e'
    cases e'
    exact ⟨ys, a, us', fin_get h g, hv, k1, k2, k3⟩
theorem exit_RN {K : PySem.W.Frag} {F H F' H' : Hp} {σ : L2.St} {env : Env} {vs : List V} {us : List U} {v : V} {u : U} (r : RU (entryZ F H vs us) F' H' σ env v u) : RN H F' H' v u := by
  cases u with
  | v d => exact r
  | o xs => obtain ⟨a, ws, rfl, h1, h2, h3, h4, _⟩ := r; exact ⟨a, ws, rfl, h4, h1, h2, h3⟩
  | r xs => exact r
  | s ns => exact r
  | x c fs => exact r
section
variable {P : Program} {w : World} {K : PySem.W.Frag} {mg : Str → Option Value} {base : Heap}
/-- what stands behind the names of a body -/
structure Glob (P : Program) (w : World) (K : PySem.W.Frag) (mg : Str → Option Value) (base : Heap) (CT : CTab) (Γ : Nat → Option FS) (cc : CC) (k : Nat) : Prop where
  blt : ∀ x ∈ blts, mg x = none
  gcd : cc.gcd = true → mg "gcd" = some (.builtin "math.gcd")
  lcm : cc.lcm = true → mg "lcm" = some (.builtin "math.lcm")
  cons : ∀ x i, cc.cons.lookup x = some i → ∃ t, mg x = some (.int i t)
  fns : ∀ f S, Γ f = some S → ∃ (x : Str) (fa : Addr) (fd : FuncData) (ps : List Str) (j : Nat), cc.fns[f]? = some x ∧ mg x = some (.ref fa) ∧ PySem.W.keepIn K (.ref fa) = true ∧ Binds K fd ps [] ∧ FnOk P w K mg base (L2.CX P w) j fa fd ps (spOf K CT S) ∧ j ≤ k ∧ ∀ p ∈ cc.pats, p.1 = f → KB K fd ps p
  full : ∀ f x, cc.fns[f]? = some x → ∃ S, Γ f = some S
  xc : ∀ c C ns, CT c = some (C, ns) → ErrC K C ns
  cat : ∀ d x, (d, x) ∈ cc.cats → ∃ D : Value, CatN mg x D ∧ ∀ c C ns, CT c = some (C, ns) → PySem.W.exmOne K (.ref C) D = some (subX c d) ∧ PySem.W.kitOne K (.ref C) D = some (subX c d)
  exs : ∀ c x ns, (c, x, ns) ∈ cc.excs → 1 ≤ k ∧ ∃ C, CT c = some (C, ns) ∧ mg x = some (.ref C) ∧ PySem.W.keepIn K (.ref C) = true ∧ PySem.W.subIn K (.ref C) (.type "BaseException") = some true ∧ PySem.W.typeIn K (.ref C) = some (.type "type") ∧ EX.Makes P w K mg C ns
theorem fn_ok {x qual : Str} {st : Stmt} {f : Addr} {fd : FuncData} {N ps : List Str} {k : Nat} (F : Fun K x qual st f fd) (Sc : FnScope N ps (defScope st)) {S : FS} {Γ : Nat → Option FS} {CT : CTab} {n : Nat} {cc : CC} {body : List GM.S}
    (hN : cc.N = N) (hsc : cc.sc = defScope st) (hst : ∀ x, cc.st x = true → Loc (defScope st) x) (G : Glob P w K mg base CT Γ cc k) (chk : chkSs (chkS n cc) body (defBody st) = true) (len : ∀ a, S.pre a → (S.args a).length = ps.length)
    (wp : ∀ a, S.pre a → wpF Γ n body N.length (S.args a) (S.post a) (S.exc a)) : FnOk P w K mg base (L2.CX P w) (k + 1) f fd ps (spOf K CT S) := by
  refine F.okX Sc (fun vs H Q E h => ?_) fun cdv A outer s H vs Q E hr h => ?_
  · obtain ⟨a, F0, _, rel, _, pre, _⟩ := h
    rw [pair_len rel]; exact len a pre
  · obtain ⟨a, F0, sF, rel, ap, pre, q1, q2⟩ := h
    have ok : Ok Γ CT (cxOf (L2.CX P w) P w K mg base N qual (defScope st) f cdv A outer s H E) (fun cls d _ H => E cls d H) cc := {
      n := hN.symm
      nd := Sc.nd
      sc := hsc.symm
      st := fun y hy => ⟨hst y hy, .inl rfl⟩
      calm := rfl
      tk := takes_of rfl rfl rfl rfl
      po := passes_of rfl
      un := by
        have e := hr.un
        show (A.deeper _).units + 65 < cLine
        omega
      blt := G.blt
      gcd := G.gcd
      lcm := G.lcm
      cons := G.cons
      fns := fun f S h => by
        obtain ⟨x, fa, fd, ps, j, h1, h2, h3, h4, h5, h6, h7⟩ := G.fns f S h
        exact ⟨x, fa, fd, ps, j, h1, h2, h3, h4, h5, hr.mono h6, h7⟩
      full := G.full
      frm := fun _ => ⟨rfl, rfl⟩
      xc := G.xc
      cat := G.cat
      exs := fun c x ns h => by
        obtain ⟨hk, C, h1, h2, h3, h4, h5, h6⟩ := G.exs c x ns h
        exact ⟨C, 0, h1, h2, h3, raises_own h4 h5, h6, hr.mono hk⟩ }
    refine ⟨tSs Γ CT K (fun cls d _ H => E cls d H) (entryZ F0 H vs (S.args a)) n body, snd_Ss (soundS Γ CT n) ok _ chk, F0, GM.start N.length (S.args a), _, entry_SR sF rel ap, ?_, wp a pre⟩
    refine ⟨fun e q σ' F' H' s' S' => ?_, fun e q => q.elim, fun e q => q.elim, fun u e q v σ' F' H' s' S' r => ?_, fun x e q σ' cls d F' H' s' S' xr => ?_⟩
    · exact q1 _ _ _ F' H' q (exit_After rel S') .non
    · exact q1 _ _ _ F' H' q (exit_After rel S') (exit_RN (K := K) r)
    · exact q2 _ _ _ _ F' H' q (exit_After rel S') xr
end
end GM

set_option maxRecDepth 100000
/-! GM: loops, places, small promises -/
namespace GM
open PySem PySem.Spec PyProof.Rows L2
def gam (l : List FS) (i : Nat) : Option FS := l[i]?
theorem forP_inv {step : D → Env → (Env → Prop) → Prop} {xs : List D} {env : Env} {done : Env → Prop} (I : Nat → Env → Prop) (h0 : I 0 env)
    (hs : ∀ i x e (nx : Env → Prop), xs[i]? = some x → I i e → (∀ e', I (i + 1) e' → nx e') → step x e nx) (hd : ∀ e, I xs.length e → done e) : forP step xs env done := by
  unfold forP
  have go : ∀ (ys : List D) (k : Nat) (e : Env), xs.drop k = ys → k ≤ xs.length → I k e → forL step ys e done := by
    intro ys
    induction ys with
    | nil =>
      intro k e hk hl hI
      have : k = xs.length := by have := congrArg List.length hk; simp at this; omega
      subst this
      exact hd e hI
    | cons y ys ih =>
      intro k e hk hl hI
      have hlt : k < xs.length := by
        have := congrArg List.length hk
        simp at this
        omega
      have hy : xs[k]? = some y := by
        have : (xs.drop k)[0]? = some y := by rw [hk]; rfl
        simpa using this
      refine hs k y e _ hy hI fun e' hI' => ih (k + 1) e' ?_ hlt hI'
      rw [← List.drop_drop, hk]
      rfl
  exact go xs 0 env rfl (Nat.zero_le _) h0
theorem whileP_inv {step : Env → (Env → Prop) → Prop} {env : Env} (I : Nat → Env → Prop) (m : Nat) (h0 : I m env) (hs : ∀ m e (nx : Env → Prop), I m e → (∀ m' e', m' < m → I m' e' → nx e') → step e nx) : whileP step env := by
  unfold whileP
  have go : ∀ (n m : Nat) (e : Env), m < n → I m e → whileN step n e := by
    intro n
    induction n with
    | zero => intro m e h; omega
    | succ n ih => intro m e h hI; exact hs m e _ hI fun m' e' hm hI' => ih m' e' (by omega) hI'
  exact ⟨m + 1, go (m + 1) m env (by omega) h0⟩
/-- a comprehension whose turns leave the slots alone -/
theorem compP_each {step : D → Env → (List D → Env → Prop) → Prop} (f : D → List D) {env : Env} {Q : List D → Env → Prop} : ∀ {xs : List D} {acc : List D}, (∀ x ∈ xs, ∀ nx : List D → Env → Prop, nx (f x) env → step x env nx) → Q (acc ++ xs.flatMap f) env → compP step xs env acc Q
  | [], acc, _, q => compP_nil (by simpa using q)
  | x :: xs, acc, h, q => by
    refine compP_cons (h x List.mem_cons_self _ ?_)
    refine compP_each f (xs := xs) (fun y m => h y (List.mem_cons_of_mem _ m)) ?_
    rw [List.flatMap_cons] at q
    rw [List.append_assoc]
    exact q
theorem flatMap_one {α β : Type} (f : α → β) : ∀ xs : List α, xs.flatMap (fun x => [f x]) = xs.map f
  | [] => rfl
  | x :: xs => by rw [List.flatMap_cons, flatMap_one f xs]; rfl
theorem compP_map {step : D → Env → (List D → Env → Prop) → Prop} (f : D → D) {env : Env} {Q : List D → Env → Prop} {xs : List D} (h : ∀ x ∈ xs, ∀ nx : List D → Env → Prop, nx [f x] env → step x env nx) (q : Q (xs.map f) env) : compP step xs env [] Q :=
  compP_each (fun x => [f x]) h (by rw [flatMap_one]; exact q)
theorem compP_filter {step : D → Env → (List D → Env → Prop) → Prop} (p : D → Bool) (f : D → D) {env : Env} {Q : List D → Env → Prop} {xs : List D} (h : ∀ x ∈ xs, ∀ nx : List D → Env → Prop, nx (if p x then [f x] else []) env → step x env nx) (q : Q ((xs.filter p).map f) env) : compP step xs env [] Q :=
  compP_each (fun x => if p x then [f x] else []) h (by
    have : ∀ xs : List D, xs.flatMap (fun x => if p x then [f x] else []) = (xs.filter p).map f := by
      intro xs
      induction xs with
      | nil => rfl
      | cons x xs ih =>
        rw [List.flatMap_cons, ih, List.filter_cons]
        cases p x <;> rfl
    rw [this]
    exact q)
/-! places -/
theorem atD_nat {α : Type} {xs : List α} {i : Nat} {x : α} (h : xs[i]? = some x) : atD xs (i : Int) = some x := h
theorem atD_pos {α : Type} {xs : List α} {i : Int} {x : α} (h0 : 0 ≤ i) (h : xs[i.toNat]? = some x) : atD xs i = some x := by
  obtain ⟨n, rfl⟩ := Int.eq_ofNat_of_zero_le h0
  exact h
theorem idx_list {xs : List D} {i : Int} {x : D} (h0 : 0 ≤ i) (h : xs[i.toNat]? = some x) : idxD (.list xs) (.int i) = some x := atD_pos h0 h
theorem idx_tup {xs : List D} {i : Int} {x : D} (h0 : 0 ≤ i) (h : xs[i.toNat]? = some x) : idxD (.tuple xs) (.int i) = some x := atD_pos h0 h
theorem set_pos {xs : List D} {i : Int} {d : D} (h0 : 0 ≤ i) (h : i < xs.length) : setAt xs (.int i) d = some (xs.set i.toNat d) := by
  unfold setAt ixN
  simp only [h0, h, if_true]
theorem ints_some : ∀ ns : List Int, intsD (ns.map .int) = some ns
  | [] => rfl
  | n :: ns => by
    show (match intsD (ns.map .int) with | some is => some (n :: is) | none => none) = _
    rw [ints_some ns]
theorem pop_last (xs : List D) (x : D) : mthD .pop (xs ++ [x]) [] = some (x, xs) := by
  simp [mthD]
theorem rng_get {lo : Int} {n i : Nat} {x : D} (h : (rngI lo n)[i]? = some x) : i < n ∧ x = .int (lo + i) := by
  have hl : i < n := by
    have := (List.getElem?_eq_some_iff.mp h).1
    rwa [rngI_length] at this
  rw [rngI_get hl] at h
  exact ⟨hl, by cases h; rfl⟩
theorem eqv_int (a b : Int) : PyData.eqv (.int a) (.int b) = decide (a = b) := by
  rw [PyData.eqv]
  by_cases h : a = b <;> simp [h]
/-! a def that changes nothing -/
def pureS {α : Type} (args : α → List U) (pre : α → Prop) (post : α → D → Prop) : FS := { α := α, args := args, pre := pre, post := fun a r us' => (∃ d, r = .v d ∧ post a d) ∧ us' = args a }
/-- all ints, at least one: what the law draws from -/
def PoolOk (p : List D) : Prop := ∃ ns : List Int, p = ns.map .int ∧ ns ≠ [] ∧ (∀ n ∈ ns, 0 ≤ n) ∧ ns.length ≤ 100
/-- (pool, many): a number below many -/
def drawS : FS := { α := List D × Int, args := fun a => [.r a.1, .v (.int a.2)], pre := fun a => PoolOk a.1 ∧ 0 < a.2 ∧ a.2 < 1073741824, post := fun a r us' => ∃ (k : Int) (p : List D), r = .v (.int k) ∧ 0 ≤ k ∧ k < a.2 ∧ PoolOk p ∧ us' = [.r p, .v (.int a.2)] }
theorem call_draw {o : Option FS} {p : List D} {m : Int} {Qx : EX → List U → Prop} {Q : U → List U → Prop} (ho : o = some drawS) (h : PoolOk p) (h1 : 0 < m) (h2 : m < 1073741824) (q : ∀ k p', 0 ≤ k → k < m → PoolOk p' → Q (.v (.int k)) [.r p', .v (.int m)]) : callP o [.r p, .v (.int m)] Qx Q :=
  callP_of drawS ho (p, m) rfl ⟨h, h1, h2⟩ (by rintro r us' ⟨k, p', rfl, k1, k2, k3, rfl⟩; exact q k p' k1 k2 k3) fun _ _ h => h.elim
/-- (pool, row): one of row -/
def pickS : FS := { α := List D × List D, args := fun a => [.r a.1, .v (.list a.2)], pre := fun a => PoolOk a.1 ∧ a.2 ≠ [] ∧ a.2.length ≤ 1000000, post := fun a r us' => ∃ (d : D) (p : List D), r = .v d ∧ d ∈ a.2 ∧ PoolOk p ∧ us' = [.r p, .v (.list a.2)] }
theorem call_pick {o : Option FS} {p row : List D} {Qx : EX → List U → Prop} {Q : U → List U → Prop} (ho : o = some pickS) (h : PoolOk p) (h1 : row ≠ []) (h2 : row.length ≤ 1000000) (q : ∀ d p', d ∈ row → PoolOk p' → Q (.v d) [.r p', .v (.list row)]) : callP o [.r p, .v (.list row)] Qx Q :=
  callP_of pickS ho (p, row) rfl ⟨h, h1, h2⟩ (by rintro r us' ⟨d, p', rfl, k1, k2, rfl⟩; exact q d p' k1 k2) fun _ _ h => h.elim
mutual
def szD : D → Nat
  | .list xs => szDs xs + 1
  | .tuple xs => szDs xs + 1
  | .dict _ => 0
  | _ => 1
def szDs : List D → Nat
  | [] => 0
  | x :: xs => szD x + szDs xs
end
mutual
def okD : D → Bool
  | .list xs => okDs xs
  | .tuple xs => okDs xs
  | .dict _ => false
  | .str x => PyData.canLay0 (.str x)
  | _ => true
def okDs : List D → Bool
  | [] => true
  | x :: xs => okD x && okDs xs
end
/-- (told, due): the same -/
def sameS : FS := { α := D, args := fun d => [.v d, .v d], pre := fun d => okD d = true ∧ szD d ≤ 1000000, post := fun d r us' => r = .v (.bool true) ∧ us' = [.v d, .v d] }
theorem call_same {o : Option FS} {d e : D} {Qx : EX → List U → Prop} {Q : U → List U → Prop} (ho : o = some sameS) (he : d = e) (h : okD d = true) (h2 : szD d ≤ 1000000) (q : Q (.v (.bool true)) [.v d, .v d]) : callP o [.v d, .v e] Qx Q := by
  subst he
  exact callP_of sameS ho d rfl ⟨h, h2⟩ (by rintro r us' ⟨rfl, rfl⟩; exact q) fun _ _ h => h.elim
/-- a slot that may be written -/
def Fre (u : Option U) : Prop := u = none ∨ ∃ d, u = some (.v d)
theorem Fre.no : Fre none := .inl rfl
theorem Fre.v (d : D) : Fre (some (.v d)) := .inr ⟨d, rfl⟩
theorem asg_fr {env : Env} {i : Nat} {u : Option U} (h : Fre u) (g : get env i = u) : asgOk env i := by
  unfold asgOk
  rcases h with rfl | ⟨d, rfl⟩ <;> rw [g] <;> exact True.intro
theorem plain_fr {env : Env} {i : Nat} {u : Option U} (h : Fre u) (g : get env i = u) : plainAt env i := by
  unfold plainAt
  rcases h with rfl | ⟨d, rfl⟩ <;> rw [g] <;> exact True.intro
theorem divC_of {j : Int} (h : 0 < j) (h2 : j < 1073741824) : divC j := ⟨h, .inl h2⟩
theorem mulC_r {i j : Int} (h : 0 ≤ j) (h2 : j < 18446744073709551616) : mulC i j := .inl (.inr ⟨by omega, by omega⟩)
theorem mulC_l {i j : Int} (h : 0 ≤ i) (h2 : i < 18446744073709551616) : mulC i j := .inl (.inl ⟨by omega, by omega⟩)
theorem cut_none {α : Type} (xs : List α) (k : Nat) : cutL xs none (some (k : Int)) = xs.take k := by
  unfold cutL
  rw [HT.sIx_none, show HT.sIx xs.length xs.length (some (k : Int)) = min k xs.length from HT.sIx_nat xs.length xs.length k]
  rw [List.drop_zero, Nat.sub_zero]
  by_cases h : k ≤ xs.length
  · rw [Nat.min_eq_left h]
  · rw [Nat.min_eq_right (by omega), List.take_length, List.take_of_length_le (by omega)]
theorem cut_two {α : Type} (xs : List α) (a b : Nat) : cutL xs (some (a : Int)) (some (b : Int)) = (xs.take b).drop a := by
  unfold cutL
  rw [show HT.sIx xs.length 0 (some (a : Int)) = min a xs.length from HT.sIx_nat xs.length 0 a, show HT.sIx xs.length xs.length (some (b : Int)) = min b xs.length from HT.sIx_nat xs.length xs.length b]
  rw [List.drop_take]
  by_cases h : a ≤ xs.length
  · rw [Nat.min_eq_left h]
    by_cases h2 : b ≤ xs.length
    · rw [Nat.min_eq_left h2]
    · have e1 : (xs.drop a).take (xs.length - a) = xs.drop a := List.take_of_length_le (by simp)
      have e2 : (xs.drop a).take (b - a) = xs.drop a := List.take_of_length_le (by simp; omega)
      rw [Nat.min_eq_right (by omega), e1, e2]
  · have e1 : xs.drop a = [] := List.drop_of_length_le (by omega)
    have e2 : xs.drop xs.length = [] := List.drop_of_length_le (Nat.le_refl _)
    rw [Nat.min_eq_right (by omega : xs.length ≤ a), e1, e2]
    simp
theorem map_at {α : Type} {f : α → D} {xs : List α} {i : Nat} {d : D} (h : (xs.map f)[i]? = some d) : ∃ x, xs[i]? = some x ∧ d = f x := by
  rw [List.getElem?_map] at h
  cases q : xs[i]? with
  | none => rw [q] at h; simp at h
  | some x => rw [q] at h; exact ⟨x, rfl, by simpa using h.symm⟩
theorem take_at {α : Type} {xs : List α} {k i : Nat} {d : α} (h : (xs.take k)[i]? = some d) : i < k ∧ xs[i]? = some d := by
  rw [List.getElem?_take] at h
  split at h
  · exact ⟨by assumption, h⟩
  · cases h
theorem flatRep {α : Type} (n : Nat) (x : α) : (List.replicate n [x]).flatten = List.replicate n x := by
  induction n with
  | zero => rfl
  | succ n ih => rw [List.replicate_succ, List.flatten_cons, ih, List.replicate_succ]; rfl
def valS {α : Type} (args : α → List U) (pre : α → Prop) (res : α → D) : FS := { α := α, args := args, pre := pre, post := fun a r us' => r = .v (res a) ∧ us' = args a }
theorem call_val {α : Type} {args : α → List U} {pre : α → Prop} {res : α → D} {o : Option FS} {us : List U} {Qx : EX → List U → Prop} {Q : U → List U → Prop} (ho : o = some (valS args pre res)) (a : α) (e : us = args a) (h : pre a) (q : Q (.v (res a)) us) : callP o us Qx Q := by
  subst e
  exact callP_of (valS args pre res) ho a rfl h (by rintro r us' ⟨rfl, rfl⟩; exact q) fun _ _ h => h.elim
theorem div_eq {a b q : Int} (hb : 0 < b) (h1 : q * b ≤ a) (h2 : a < (q + 1) * b) : a / b = q := by
  have e1 : q ≤ a / b := (Int.le_ediv_iff_mul_le hb).mpr h1
  have e2 : a / b < q + 1 := (Int.ediv_lt_iff_lt_mul hb).mpr h2
  omega
theorem div_lo {a b : Int} (hb : 0 < b) : a / b * b ≤ a := Int.ediv_mul_le a (by omega)
theorem div_hi {a b : Int} (hb : 0 < b) : a < (a / b + 1) * b := Int.lt_ediv_add_one_mul_self a hb
theorem divC_big {j : Int} (h : 0 < j) (h2 : j < 18446744073709551616) : divC j := by
  refine ⟨h, .inr ?_⟩
  have : j.natAbs.log2 < 64 := by
    rw [Nat.log2_lt (by omega)]
    omega
  omega
theorem okDs_app : ∀ {xs ys : List D}, okDs (xs ++ ys) = (okDs xs && okDs ys)
  | [], ys => by simp [okDs]
  | x :: xs, ys => by simp [okDs, okDs_app (xs := xs) (ys := ys), Bool.and_assoc]
theorem szDs_app : ∀ {xs ys : List D}, szDs (xs ++ ys) = szDs xs + szDs ys
  | [], ys => by simp [szDs]
  | x :: xs, ys => by simp [szDs, szDs_app (xs := xs) (ys := ys), Nat.add_assoc]
theorem sz_pos {d : D} (h : okD d = true) : 1 ≤ szD d := by
  cases d <;> first | (simp [szD]; done) | (simp [okD] at h; done)
theorem len_sz : ∀ {ds : List D}, okDs ds = true → ds.length ≤ szDs ds
  | [], _ => by simp [szDs]
  | d :: ds, h => by
    obtain ⟨h1, h2⟩ := and_split (show (okD d && okDs ds) = true by simpa [okDs] using h)
    have := len_sz h2
    have := sz_pos h1
    simp [szDs]
    omega
theorem okD_list {xs : List D} : okD (.list xs) = okDs xs := by simp [okD]
theorem okD_tup {xs : List D} : okD (.tuple xs) = okDs xs := by simp [okD]
theorem okDs_at : ∀ {ds : List D} {i : Nat} {d : D}, okDs ds = true → ds[i]? = some d → okD d = true
  | [], _, _, _, e => by simp at e
  | x :: xs, 0, d, h, e => by
    obtain ⟨h1, h2⟩ := and_split (show (okD x && okDs xs) = true by simpa [okDs] using h)
    simp at e; rw [← e]; exact h1
  | x :: xs, i + 1, d, h, e => by
    obtain ⟨h1, h2⟩ := and_split (show (okD x && okDs xs) = true by simpa [okDs] using h)
    exact okDs_at h2 (by simpa using e)
theorem okDs_take : ∀ {ds : List D} {k : Nat}, okDs ds = true → okDs (ds.take k) = true
  | [], _, _ => by simp [okDs]
  | x :: xs, 0, _ => by simp [okDs]
  | x :: xs, k + 1, h => by
    obtain ⟨h1, h2⟩ := and_split (show (okD x && okDs xs) = true by simpa [okDs] using h)
    simp [okDs, h1, okDs_take (k := k) h2]
theorem szDs_take : ∀ {ds : List D} {k : Nat}, szDs (ds.take k) ≤ szDs ds
  | [], _ => by simp [szDs]
  | x :: xs, 0 => by simp [szDs]
  | x :: xs, k + 1 => by
    have := szDs_take (ds := xs) (k := k)
    simp [szDs]
    omega
end GM

set_option maxRecDepth 100000
/-! GM: comprehensions by an invariant; data without lists; places of written tuples -/
namespace GM
open PySem PySem.Spec PyProof.Rows L2
theorem compP_inv {step : D → Env → (List D → Env → Prop) → Prop} {xs : List D} {env : Env} {acc0 : List D} {Q : List D → Env → Prop} (I : Nat → List D → Env → Prop) (h0 : I 0 acc0 env)
    (hs : ∀ i x acc e (nx : List D → Env → Prop), xs[i]? = some x → I i acc e → (∀ ds e', I (i + 1) (acc ++ ds) e' → nx ds e') → step x e nx) (hd : ∀ acc e, I xs.length acc e → Q acc e) : compP step xs env acc0 Q := by
  have go : ∀ (ys : List D) (k : Nat) (acc : List D) (e : Env), xs.drop k = ys → k ≤ xs.length → I k acc e → compP step ys e acc Q := by
    intro ys
    induction ys with
    | nil =>
      intro k acc e hk hl hI
      have : k = xs.length := by have := congrArg List.length hk; simp at this; omega
      subst this
      exact compP_nil (hd acc e hI)
    | cons y ys ih =>
      intro k acc e hk hl hI
      have hlt : k < xs.length := by
        have := congrArg List.length hk
        simp at this
        omega
      have hy : xs[k]? = some y := by
        have : (xs.drop k)[0]? = some y := by rw [hk]; rfl
        simpa using this
      refine compP_cons (hs k y acc e _ hy hI fun ds e' hI' => ih (k + 1) (acc ++ ds) e' ?_ hlt hI')
      rw [← List.drop_drop, hk]
      rfl
  exact go xs 0 acc0 env rfl (Nat.zero_le _) h0
/-- a comprehension that gathers one item each turn -/
theorem compP_gather {step : D → Env → (List D → Env → Prop) → Prop} {xs : List D} {env : Env} {Q : List D → Env → Prop} (P : D → Prop) (I : Env → Prop) (h0 : I env)
    (hs : ∀ (i : Nat) (x : D) (e : Env) (nx : List D → Env → Prop), xs[i]? = some x → I e → (∀ d e', P d → I e' → nx [d] e') → step x e nx) (hd : ∀ acc e, acc.length = xs.length → (∀ d ∈ acc, P d) → I e → Q acc e) : compP step xs env [] Q :=
  compP_inv (fun i acc e => acc.length = i ∧ (∀ d ∈ acc, P d) ∧ I e) ⟨rfl, by simp, h0⟩
    (fun i x acc e nx hx ⟨h1, h2, h3⟩ hn => hs i x e nx hx h3 fun d e' hp hi => hn [d] e' ⟨by simp [h1], fun y hy => by
      rcases List.mem_append.mp hy with hy | hy
      · exact h2 y hy
      · rw [List.mem_singleton.mp hy]; exact hp, hi⟩) fun acc e ⟨h1, h2, h3⟩ => hd acc e h1 h2 h3
/-- an item of a written tuple, by what all of them are -/
theorem pick_tup {xs : List D} {i : Int} {P : D → Prop} (h0 : 0 ≤ i) (h1 : i < xs.length) (hp : ∀ x ∈ xs, P x) : ∃ x, idxD (.tuple xs) (.int i) = some x ∧ P x := by
  have hk : i.toNat < xs.length := by omega
  exact ⟨xs[i.toNat], idx_tup h0 (List.getElem?_eq_getElem hk), hp _ (List.getElem_mem hk)⟩
theorem pick_list {xs : List D} {i : Int} {P : D → Prop} (h0 : 0 ≤ i) (h1 : i < xs.length) (hp : ∀ x ∈ xs, P x) : ∃ x, idxD (.list xs) (.int i) = some x ∧ P x := by
  have hk : i.toNat < xs.length := by omega
  exact ⟨xs[i.toNat], idx_list h0 (List.getElem?_eq_getElem hk), hp _ (List.getElem_mem hk)⟩
/-! data of tuples, numbers, truth values, texts, None -/
mutual
def okT : D → Bool
  | .list _ => false
  | .tuple xs => okTs xs
  | .dict _ => false
  | .str x => PyData.canLay0 (.str x)
  | _ => true
def okTs : List D → Bool
  | [] => true
  | x :: xs => okT x && okTs xs
end
theorem okTs_app : ∀ {xs ys : List D}, okTs (xs ++ ys) = (okTs xs && okTs ys)
  | [], ys => by simp [okTs]
  | x :: xs, ys => by simp [okTs, okTs_app (xs := xs) (ys := ys), Bool.and_assoc]
theorem okT_tup {xs : List D} : okT (.tuple xs) = okTs xs := by simp [okT]
theorem szT_pos {d : D} (h : okT d = true) : 1 ≤ szD d := by
  cases d <;> first | (simp [szD]; done) | (simp [okT] at h; done)
theorem lenT_sz : ∀ {ds : List D}, okTs ds = true → ds.length ≤ szDs ds
  | [], _ => by simp [szDs]
  | d :: ds, h => by
    obtain ⟨h1, h2⟩ := and_split (show (okT d && okTs ds) = true by simpa [okTs] using h)
    have := lenT_sz h2
    have := szT_pos h1
    simp [szDs]
    omega
theorem okTs_at : ∀ {ds : List D} {i : Nat} {d : D}, okTs ds = true → ds[i]? = some d → okT d = true
  | [], _, _, _, e => by simp at e
  | x :: xs, 0, d, h, e => by
    obtain ⟨h1, h2⟩ := and_split (show (okT x && okTs xs) = true by simpa [okTs] using h)
    simp at e; rw [← e]; exact h1
  | x :: xs, i + 1, d, h, e => by
    obtain ⟨h1, h2⟩ := and_split (show (okT x && okTs xs) = true by simpa [okTs] using h)
    exact okTs_at h2 (by simpa using e)
theorem okTs_all : ∀ {ds : List D}, (∀ d ∈ ds, okT d = true) → okTs ds = true
  | [], _ => by simp [okTs]
  | d :: ds, h => by simp [okTs, h d List.mem_cons_self, okTs_all (ds := ds) fun e he => h e (List.mem_cons_of_mem _ he)]
theorem szDs_all {b : Nat} : ∀ {ds : List D}, (∀ d ∈ ds, szD d ≤ b) → szDs ds ≤ ds.length * b
  | [], _ => by simp [szDs]
  | d :: ds, h => by
    have h1 := h d List.mem_cons_self
    have h2 := szDs_all (ds := ds) fun e he => h e (List.mem_cons_of_mem _ he)
    simp [szDs, Nat.succ_mul]
    omega
theorem okTs_ints (ns : List Int) : okTs (ns.map .int) = true := okTs_all fun d hd => by
  obtain ⟨n, _, rfl⟩ := List.mem_map.mp hd
  simp [okT]
theorem szDs_ints (ns : List Int) : szDs (ns.map .int) = ns.length := by
  induction ns with
  | nil => simp [szDs]
  | cons n ns ih => simp [szDs, szD, ih]; omega
/-- (told, due): the same; no lists -/
def sameT : FS := { α := D, args := fun d => [.v d, .v d], pre := fun d => okT d = true ∧ szD d ≤ 1000000, post := fun d r us' => r = .v (.bool true) ∧ us' = [.v d, .v d] }
theorem call_sameT {o : Option FS} {d e : D} {Qx : EX → List U → Prop} {Q : U → List U → Prop} (ho : o = some sameT) (he : d = e) (h : okT d = true) (h2 : szD d ≤ 1000000) (q : Q (.v (.bool true)) [.v d, .v d]) : callP o [.v d, .v e] Qx Q := by
  subst he
  exact callP_of sameT ho d rfl ⟨h, h2⟩ (by rintro r us' ⟨rfl, rfl⟩; exact q) fun _ _ h => h.elim
theorem shp_i (a b : Int) : shapedP (.int a) ∧ shapedP (.int b) := ⟨rfl, rfl⟩
theorem shpStr {x : Str} (h : PyData.canLay0 (.str x) = true) : shapedP (.str x) := by
  unfold shapedP SeqAt.shaped
  rw [h]; rfl
end GM

set_option maxRecDepth 100000
/-! GM: the own errors of a law, from what the kept part tells -/
namespace GM
open PySem PySem.Spec PyProof.Rows L2
/-- the first def in a class's body -/
def iniS (s : Stmt) : Stmt := match s with
  | .ClassDef _ _ _ b _ _ _ _ _ _ _ => b.headD (.Pass ⟨0, 0, 0, 0⟩)
  | _ => .Pass ⟨0, 0, 0, 0⟩
/-- the table of own errors: the first has number 1 -/
def CTl (l : List (Addr × List Str)) : CTab := fun c => match c with
  | 0 => none
  | k + 1 => l[k]?
theorem ct_of {l : List (Addr × List Str)} {Q : Nat → Addr → List Str → Prop} (h : ∀ k p, l[k]? = some p → Q (k + 1) p.1 p.2) : ∀ c C ns, CTl l c = some (C, ns) → Q c C ns
  | 0, _, _, e => nomatch e
  | k + 1, C, ns, e => h k (C, ns) e
theorem at_nil {α : Type} {Q : Nat → α → Prop} : ∀ k p, ([] : List α)[k]? = some p → Q k p := fun k p h => by simp at h
theorem at_cons {α : Type} {Q : Nat → α → Prop} {p0 : α} {l : List α} (h0 : Q 0 p0) (ht : ∀ k p, l[k]? = some p → Q (k + 1) p) : ∀ k p, (p0 :: l)[k]? = some p → Q k p := fun k p h => by
  cases k with
  | zero =>
    have e : p0 = p := by simpa using h
    rw [← e]; exact h0
  | succ k => exact ht k p (by simpa using h)
/-- what is known of one own error -/
structure OwnF (P : Program) (w : World) (K : PySem.W.Frag) (mg : Str → Option Value) (x : Str) (C : Addr) (fs : List Str) : Prop where
  err : ErrC K C fs
  nm : mg x = some (.ref C)
  keep : PySem.W.keepIn K (.ref C) = true
  be : PySem.W.subIn K (.ref C) (.type "BaseException") = some true
  ty : PySem.W.typeIn K (.ref C) = some (.type "type")
  make : EX.Makes P w K mg C fs
theorem exs_one {P : Program} {w : World} {K : PySem.W.Frag} {mg : Str → Option Value} {x : Str} {C : Addr} {fs : List Str} {k c : Nat} {CT : CTab} (O : OwnF P w K mg x C fs) (hk : 1 ≤ k) (h : CT c = some (C, fs)) :
    1 ≤ k ∧ ∃ C, CT c = some (C, fs) ∧ mg x = some (.ref C) ∧ PySem.W.keepIn K (.ref C) = true ∧ PySem.W.subIn K (.ref C) (.type "BaseException") = some true ∧ PySem.W.typeIn K (.ref C) = some (.type "type") ∧ EX.Makes P w K mg C fs :=
  ⟨hk, C, h, O.nm, O.keep, O.be, O.ty, O.make⟩
theorem cons_of {mg : Str → Option Value} : ∀ {l : List (Str × Int)}, (∀ p ∈ l, ∃ t, mg p.1 = some (.int p.2 t)) → ∀ x i, l.lookup x = some i → ∃ t, mg x = some (.int i t)
  | [], _, x, i, e => nomatch e
  | (y, j) :: l, h, x, i, e => by
    rw [List.lookup_cons] at e
    by_cases q : x == y
    · rw [q] at e
      have e1 : x = y := by simpa using q
      have e2 : j = i := by simpa using e
      subst e1 e2
      exact h (x, j) List.mem_cons_self
    · have q : (x == y) = false := by simpa using q
      rw [q] at e
      exact cons_of (fun p hp => h p (List.mem_cons_of_mem _ hp)) x i e
/-- a promise that raises nothing, by any table -/
theorem ct_any {K : PySem.W.Frag} {CT CT' : CTab} {S : FS} (h : ∀ a x us, ¬ S.exc a x us) {vs : List V} {H : Hp} {Q : VK} {E : XK} (q : spOf K CT S vs H Q E) : spOf K CT' S vs H Q E := by
  obtain ⟨a, F, h1, h2, h3, h4, h5, _⟩ := q
  exact ⟨a, F, h1, h2, h3, h4, h5, fun x us' cls d F' H' e => (h a x us' e).elim⟩
end GM

set_option maxRecDepth 100000
namespace GL
open PySem PySem.Spec PyProof.Rows L2 GM
def topS (i : Nat) : Stmt := PySem.Challenge.pw_nogapmissed_k03_standings_lots.main.body.getD i (.Pass ⟨0, 0, 0, 0⟩)
def stOf (sc : Scope) (x : Str) : Bool := match sc.names.lookup x with | some .local => true | some .cell => true | _ => false
theorem stOf_loc {sc : Scope} {x : Str} (h : stOf sc x = true) : Loc sc x := by
  unfold stOf at h
  split at h
  · exact .inl (by assumption)
  · exact .inr (by assumption)
  · cases h
/-! _law_tub(&script); slots: 0 script, 1 cell; calls:  -/
def s_l_tub : Stmt := topS 14
def n_l_tub : List Str := ["script", "cell"]
def b_l_tub : List GM.S := [.ret (.lst [.comp (.bi .int1 [.var 1]) (.nm 1) (.slc (.var 0) none (some (.con (.int 63)))) [] [1], .con (.int 0), .con (.int 0), .con (.int 95311)])]
def c_l_tub : CC := { N := n_l_tub, sc := defScope s_l_tub, st := stOf (defScope s_l_tub), fns := [], pars := fun _ => [], cons := [], gcd := false, lcm := false, pats := [], excs := [], cats := [], top := true }
theorem sc_l_tub : FnScope n_l_tub ["script"] (defScope s_l_tub) := ⟨rfl, rfl, rfl, by decide +kernel, rfl, by decide +kernel, by decide +kernel⟩
theorem ck_l_tub : chkSs (chkS 60 c_l_tub) b_l_tub (defBody s_l_tub) = true := by decide +kernel
/-! _law_all(book); slots: 0 book, 1 told, 2 least, 3 greatest, 4 more, 5 ages, 6 age, 7 found, 8 day; calls:  -/
def s_l_all : Stmt := topS 23
def n_l_all : List Str := ["book", "told", "least", "greatest", "more", "ages", "age", "found", "day"]
def b_l_all : List GM.S := [.asg (.nm 1) (.lst [.tup []]),
  .for_ (.tp [.nm 2, .nm 3]) (.idx (.var 0) (.con (.int 0))) [.asg (.nm 4) (.lst []), .for_ (.nm 5) (.var 1) [.asg (.nm 4) (.bin .add (.var 4) (.comp (.bin .add (.var 5) (.tup [.var 6])) (.nm 6) (.irng [.con (.int 1), .bin .add (.var 3) (.con (.int 1))]) [] [6]))], .asg (.nm 1) (.var 4)],
  .asg (.nm 7) (.lst []),
  .for_ (.nm 8) (.irng [.bi .len [.idx (.var 0) (.con (.int 1))]]) [.asg (.nm 7) (.bin .add (.var 7) (.comp (.tup [.var 8, .var 5]) (.nm 5) (.var 1) [] [5]))],
  .ret (.bi .tup1 [.var 7])]
def c_l_all : CC := { N := n_l_all, sc := defScope s_l_all, st := stOf (defScope s_l_all), fns := [], pars := fun _ => [], cons := [], gcd := false, lcm := false, pats := [], excs := [], cats := [], top := true }
theorem sc_l_all : FnScope n_l_all ["book"] (defScope s_l_all) := ⟨rfl, rfl, rfl, by decide +kernel, rfl, by decide +kernel, by decide +kernel⟩
theorem ck_l_all : chkSs (chkS 60 c_l_all) b_l_all (defBody s_l_all) = true := by decide +kernel
/-! fresh_standing(book); slots: 0 book, 1 chore; calls:  -/
def s_fresh_standing : Stmt := topS 1
def n_fresh_standing : List Str := ["book", "chore"]
def b_fresh_standing : List GM.S := [.ret (.tup [.con (.int 0), .bi .tup1 [.comp (.con (.int 1)) (.nm 1) (.idx (.var 0) (.con (.int 0))) [] [1]]])]
def c_fresh_standing : CC := { N := n_fresh_standing, sc := defScope s_fresh_standing, st := stOf (defScope s_fresh_standing), fns := [], pars := fun _ => [], cons := [], gcd := false, lcm := false, pats := [], excs := [], cats := [], top := true }
theorem sc_fresh_standing : FnScope n_fresh_standing ["book"] (defScope s_fresh_standing) := ⟨rfl, rfl, rfl, by decide +kernel, rfl, by decide +kernel, by decide +kernel⟩
theorem ck_fresh_standing : chkSs (chkS 60 c_fresh_standing) b_fresh_standing (defBody s_fresh_standing) = true := by decide +kernel
/-! due_chores(book, standing); slots: 0 book, 1 standing, 2 ages, 3 at, 4 chore; calls:  -/
def s_due_chores : Stmt := topS 3
def n_due_chores : List Str := ["book", "standing", "ages", "at", "chore"]
def b_due_chores : List GM.S := [.asg (.nm 2) (.idx (.var 1) (.con (.int 1))),
  .ret (.bi .tup1 [.comp (.var 3) (.tp [.nm 3, .nm 4]) (.ienum (.idx (.var 0) (.con (.int 0)))) [.cmp .eq (.idx (.var 2) (.var 3)) (.idx (.var 4) (.con (.int 1)))] [3, 4]])]
def c_due_chores : CC := { N := n_due_chores, sc := defScope s_due_chores, st := stOf (defScope s_due_chores), fns := [], pars := fun _ => [], cons := [], gcd := false, lcm := false, pats := [], excs := [], cats := [], top := true }
theorem sc_due_chores : FnScope n_due_chores ["book", "standing"] (defScope s_due_chores) := ⟨rfl, rfl, rfl, by decide +kernel, rfl, by decide +kernel, by decide +kernel⟩
theorem ck_due_chores : chkSs (chkS 60 c_due_chores) b_due_chores (defBody s_due_chores) = true := by decide +kernel
/-! ready_chores(book, standing); slots: 0 book, 1 standing, 2 ages, 3 at, 4 chore; calls:  -/
def s_ready_chores : Stmt := topS 4
def n_ready_chores : List Str := ["book", "standing", "ages", "at", "chore"]
def b_ready_chores : List GM.S := [.asg (.nm 2) (.idx (.var 1) (.con (.int 1))),
  .ret (.bi .tup1 [.comp (.var 3) (.tp [.nm 3, .nm 4]) (.ienum (.idx (.var 0) (.con (.int 0)))) [.cmp .ge (.idx (.var 2) (.var 3)) (.idx (.var 4) (.con (.int 0)))] [3, 4]])]
def c_ready_chores : CC := { N := n_ready_chores, sc := defScope s_ready_chores, st := stOf (defScope s_ready_chores), fns := [], pars := fun _ => [], cons := [], gcd := false, lcm := false, pats := [], excs := [], cats := [], top := true }
theorem sc_ready_chores : FnScope n_ready_chores ["book", "standing"] (defScope s_ready_chores) := ⟨rfl, rfl, rfl, by decide +kernel, rfl, by decide +kernel, by decide +kernel⟩
theorem ck_ready_chores : chkSs (chkS 60 c_ready_chores) b_ready_chores (defBody s_ready_chores) = true := by decide +kernel
/-! slack_of(book, standing); slots: 0 book, 1 standing, 2 chore, 3 age; calls:  -/
def s_slack_of : Stmt := topS 5
def n_slack_of : List Str := ["book", "standing", "chore", "age"]
def b_slack_of : List GM.S := [.ret (.bi .min1 [.comp (.bin .sub (.idx (.var 2) (.con (.int 1))) (.var 3)) (.tp [.nm 2, .nm 3]) (.izip (.idx (.var 0) (.con (.int 0))) (.idx (.var 1) (.con (.int 1)))) [] [2, 3]])]
def c_slack_of : CC := { N := n_slack_of, sc := defScope s_slack_of, st := stOf (defScope s_slack_of), fns := [], pars := fun _ => [], cons := [], gcd := false, lcm := false, pats := [], excs := [], cats := [], top := true }
theorem sc_slack_of : FnScope n_slack_of ["book", "standing"] (defScope s_slack_of) := ⟨rfl, rfl, rfl, by decide +kernel, rfl, by decide +kernel, by decide +kernel⟩
theorem ck_slack_of : chkSs (chkS 60 c_slack_of) b_slack_of (defBody s_slack_of) = true := by decide +kernel
/-! lots_between(must, ready, hands); slots: 0 must, 1 ready, 2 hands, 3 found, 4 chore, 5 lot; calls:  -/
def s_lots_between : Stmt := topS 7
def n_lots_between : List Str := ["must", "ready", "hands", "found", "chore", "lot"]
def b_lots_between : List GM.S := [.ite (.cmp .gt (.bi .len [.var 0]) (.var 2)) [.ret (.tup [])] [],
  .asg (.nm 3) (.lst [.bi .tup1 [.var 0]]),
  .for_ (.nm 4) (.var 1) [.ite (.cmp .notin (.var 4) (.var 0)) [.asg (.nm 3) (.bin .add (.var 3) (.comp (.bi .tup1 [.bi .sorted [.bin .add (.var 5) (.tup [.var 4])]]) (.nm 5) (.var 3) [.cmp .lt (.bi .len [.var 5]) (.var 2)] [5]))] []],
  .ret (.bi .tup1 [.bi .sorted [.var 3]])]
def c_lots_between : CC := { N := n_lots_between, sc := defScope s_lots_between, st := stOf (defScope s_lots_between), fns := [], pars := fun _ => [], cons := [], gcd := false, lcm := false, pats := [], excs := [], cats := [], top := true }
theorem sc_lots_between : FnScope n_lots_between ["must", "ready", "hands"] (defScope s_lots_between) := ⟨rfl, rfl, rfl, by decide +kernel, rfl, by decide +kernel, by decide +kernel⟩
theorem ck_lots_between : chkSs (chkS 60 c_lots_between) b_lots_between (defBody s_lots_between) = true := by decide +kernel
/-! let_lots(book, standing); slots: 0 book, 1 standing, 2 hands; calls: 0 due_chores, 1 ready_chores, 2 lots_between -/
def s_let_lots : Stmt := topS 9
def n_let_lots : List Str := ["book", "standing", "hands"]
def b_let_lots : List GM.S := [.asg (.nm 2) (.idx (.idx (.var 0) (.con (.int 1))) (.idx (.var 1) (.con (.int 0)))),
  .ret (.call 2 [.call 0 [.var 0, .var 1], .call 1 [.var 0, .var 1], .var 2])]
def c_let_lots : CC := { N := n_let_lots, sc := defScope s_let_lots, st := stOf (defScope s_let_lots), fns := ["due_chores", "ready_chores", "lots_between"], pars := fun _ => [], cons := [], gcd := false, lcm := false, pats := [], excs := [], cats := [], top := true }
theorem sc_let_lots : FnScope n_let_lots ["book", "standing"] (defScope s_let_lots) := ⟨rfl, rfl, rfl, by decide +kernel, rfl, by decide +kernel, by decide +kernel⟩
theorem ck_let_lots : chkSs (chkS 60 c_let_lots) b_let_lots (defBody s_let_lots) = true := by decide +kernel
/-! aged(ages, lot); slots: 0 ages, 1 lot, 2 at, 3 age; calls:  -/
def s_aged : Stmt := topS 10
def n_aged : List Str := ["ages", "lot", "at", "age"]
def b_aged : List GM.S := [.ret (.bi .tup1 [.comp (.ife (.cmp .in_ (.var 2) (.var 1)) (.con (.int 1)) (.bin .add (.var 3) (.con (.int 1)))) (.tp [.nm 2, .nm 3]) (.ienum (.var 0)) [] [2, 3]])]
def c_aged : CC := { N := n_aged, sc := defScope s_aged, st := stOf (defScope s_aged), fns := [], pars := fun _ => [], cons := [], gcd := false, lcm := false, pats := [], excs := [], cats := [], top := true }
theorem sc_aged : FnScope n_aged ["ages", "lot"] (defScope s_aged) := ⟨rfl, rfl, rfl, by decide +kernel, rfl, by decide +kernel, by decide +kernel⟩
theorem ck_aged : chkSs (chkS 60 c_aged) b_aged (defBody s_aged) = true := by decide +kernel
/-! next_standing(book, standing, lot); slots: 0 book, 1 standing, 2 lot, 3 day, 4 ages; calls: 0 aged -/
def s_next_standing : Stmt := topS 11
def n_next_standing : List Str := ["book", "standing", "lot", "day", "ages"]
def b_next_standing : List GM.S := [.asg (.tp [.nm 3, .nm 4]) (.var 1),
  .ret (.tup [.bin .mod (.bin .add (.var 3) (.con (.int 1))) (.bi .len [.idx (.var 0) (.con (.int 1))]), .call 0 [.var 4, .var 2]])]
def c_next_standing : CC := { N := n_next_standing, sc := defScope s_next_standing, st := stOf (defScope s_next_standing), fns := ["aged"], pars := fun _ => [], cons := [], gcd := false, lcm := false, pats := [], excs := [], cats := [], top := true }
theorem sc_next_standing : FnScope n_next_standing ["book", "standing", "lot"] (defScope s_next_standing) := ⟨rfl, rfl, rfl, by decide +kernel, rfl, by decide +kernel, by decide +kernel⟩
theorem ck_next_standing : chkSs (chkS 60 c_next_standing) b_next_standing (defBody s_next_standing) = true := by decide +kernel
/-! _law_same(told, due); slots: 0 told, 1 due, 2 rest, 3 count, 4 one, 5 two, 6 k; calls:  -/
def s_l_same : Stmt := topS 15
def n_l_same : List Str := ["told", "due", "rest", "count", "one", "two", "k"]
def b_l_same : List GM.S := [.asg (.nm 2) (.lst [.tup [.var 0, .var 1]]),
  .for_ (.nm 3) (.irng [.con (.int 2000000)]) [.ite (.cmp .eq (.bi .len [.var 2]) (.con (.int 0))) [.ret (.con (.bool true))] [], .asg (.tp [.nm 4, .nm 5]) (.mth .pop 2 []), .ite (.bi (.isi [3]) [.var 5]) [.ite (.or_ (.notv (.bi (.isi [3]) [.var 4])) (.cmp .ne (.bi .len [.var 4]) (.bi .len [.var 5]))) [.ret (.con (.bool false))] [], .for_ (.nm 6) (.irng [.bi .len [.var 5]]) [.exp (.mth .append 2 [.tup [.idx (.var 4) (.var 6), .idx (.var 5) (.var 6)]])]] [.ite (.cmp .is_ (.var 5) (.con .none)) [.ite (.cmp .isnot (.var 4) (.con .none)) [.ret (.con (.bool false))] []] [.ite (.bi (.isi [1]) [.var 5]) [.ite (.or_ (.notv (.bi (.isi [1]) [.var 4])) (.cmp .ne (.var 4) (.var 5))) [.ret (.con (.bool false))] []] [.ite (.bi (.isi [0]) [.var 5]) [.ite (.or_ (.notv (.bi (.isi [0]) [.var 4])) (.or_ (.bi (.isi [1]) [.var 4]) (.cmp .ne (.var 4) (.var 5)))) [.ret (.con (.bool false))] []] [.ite (.or_ (.notv (.bi (.isi [2]) [.var 5])) (.or_ (.notv (.bi (.isi [2]) [.var 4])) (.cmp .ne (.var 4) (.var 5)))) [.ret (.con (.bool false))] []]]]]],
  .ret (.con (.bool false))]
def c_l_same : CC := { N := n_l_same, sc := defScope s_l_same, st := stOf (defScope s_l_same), fns := [], pars := fun _ => [], cons := [], gcd := false, lcm := false, pats := [], excs := [], cats := [], top := true }
theorem sc_l_same : FnScope n_l_same ["told", "due"] (defScope s_l_same) := ⟨rfl, rfl, rfl, by decide +kernel, rfl, by decide +kernel, by decide +kernel⟩
theorem ck_l_same : chkSs (chkS 60 c_l_same) b_l_same (defBody s_l_same) = true := by decide +kernel
/-! is_let(book, standing, lot); slots: 0 book, 1 standing, 2 lot, 3 ready, 4 chore; calls: 0 ready_chores, 1 due_chores -/
def s_is_let : Stmt := topS 8
def n_is_let : List Str := ["book", "standing", "lot", "ready", "chore"]
def b_is_let : List GM.S := [.ite (.cmp .gt (.bi .len [.var 2]) (.idx (.idx (.var 0) (.con (.int 1))) (.idx (.var 1) (.con (.int 0))))) [.ret (.con (.bool false))] [],
  .asg (.nm 3) (.call 0 [.var 0, .var 1]),
  .ite (.cmp .gt (.bi .len [.comp (.var 4) (.nm 4) (.var 2) [.cmp .notin (.var 4) (.var 3)] [4]]) (.con (.int 0))) [.ret (.con (.bool false))] [],
  .ret (.cmp .eq (.bi .len [.comp (.var 4) (.nm 4) (.call 1 [.var 0, .var 1]) [.cmp .notin (.var 4) (.var 2)] [4]]) (.con (.int 0)))]
def c_is_let : CC := { N := n_is_let, sc := defScope s_is_let, st := stOf (defScope s_is_let), fns := ["ready_chores", "due_chores"], pars := fun _ => [], cons := [], gcd := false, lcm := false, pats := [], excs := [], cats := [], top := true }
theorem sc_is_let : FnScope n_is_let ["book", "standing", "lot"] (defScope s_is_let) := ⟨rfl, rfl, rfl, by decide +kernel, rfl, by decide +kernel, by decide +kernel⟩
theorem ck_is_let : chkSs (chkS 60 c_is_let) b_is_let (defBody s_is_let) = true := by decide +kernel
/-! all_standings(book); slots: 0 book, 1 rows, 2 chore, 3 row, 4 age, 5 day; calls:  -/
def s_all_standings : Stmt := topS 2
def n_all_standings : List Str := ["book", "rows", "chore", "row", "age", "day"]
def b_all_standings : List GM.S := [.asg (.nm 1) (.lst [.tup []]),
  .for_ (.nm 2) (.idx (.var 0) (.con (.int 0))) [.asg (.nm 1) (.comp2 (.bin .add (.var 3) (.tup [.var 4])) (.nm 3) (.var 1) [] (.nm 4) (.irng [.con (.int 1), .bin .add (.idx (.var 2) (.con (.int 1))) (.con (.int 1))]) [] [3, 4])],
  .ret (.bi .tup1 [.comp2 (.tup [.var 5, .var 3]) (.nm 5) (.irng [.bi .len [.idx (.var 0) (.con (.int 1))]]) [] (.nm 3) (.var 1) [] [5, 3]])]
def c_all_standings : CC := { N := n_all_standings, sc := defScope s_all_standings, st := stOf (defScope s_all_standings), fns := [], pars := fun _ => [], cons := [], gcd := false, lcm := false, pats := [], excs := [], cats := [], top := true }
theorem sc_all_standings : FnScope n_all_standings ["book"] (defScope s_all_standings) := ⟨rfl, rfl, rfl, by decide +kernel, rfl, by decide +kernel, by decide +kernel⟩
theorem ck_all_standings : chkSs (chkS 60 c_all_standings) b_all_standings (defBody s_all_standings) = true := by decide +kernel
/-! _law_named(); slots: 0 home, 1 pair, 2 told; calls: 0 fresh_standing, 1 due_chores, 2 ready_chores, 3 slack_of, 4 all_standings, 5 _law_same, 6 let_lots, 7 next_standing, 8 is_let -/
def s_l_named : Stmt := topS 25
def n_l_named : List Str := ["home", "pair", "told"]
def b_l_named : List GM.S := [.asg (.nm 0) (.tup [.tup [.tup [.con (.int 1), .con (.int 3)], .tup [.con (.int 2), .con (.int 4)]], .tup [.con (.int 1), .con (.int 0), .con (.int 1)]]),
  .asg (.nm 1) (.tup [.tup [.tup [.con (.int 1), .con (.int 2)], .tup [.con (.int 1), .con (.int 4)], .tup [.con (.int 1), .con (.int 4)]], .tup [.con (.int 1)]]),
  .asg (.nm 2) (.tup [.callk 0 [] [.var 0] [0], .callk 1 [] [.tup [.con (.int 0), .tup [.con (.int 3), .con (.int 2)]], .var 0] [1, 0], .callk 2 [] [.tup [.con (.int 0), .tup [.con (.int 3), .con (.int 1)]], .var 0] [1, 0], .callk 3 [] [.tup [.con (.int 0), .tup [.con (.int 1), .con (.int 1)]], .var 0] [1, 0]]),
  .ite (.or_ (.notv (.call 5 [.var 2, .tup [.tup [.con (.int 0), .tup [.con (.int 1), .con (.int 1)]], .tup [.con (.int 0)], .tup [.con (.int 0)], .con (.int 2)]])) (.notv (.call 5 [.callk 4 [] [.tup [.tup [.tup [.con (.int 1), .con (.int 2)]], .tup [.con (.int 0), .con (.int 1)]]] [0], .tup [.tup [.con (.int 0), .tup [.con (.int 1)]], .tup [.con (.int 0), .tup [.con (.int 2)]], .tup [.con (.int 1), .tup [.con (.int 1)]], .tup [.con (.int 1), .tup [.con (.int 2)]]]]))) [.ret (.con (.bool false))] [],
  .asg (.nm 2) (.tup [.callk 6 [] [.tup [.con (.int 0), .tup [.con (.int 1), .con (.int 1), .con (.int 1)]], .var 1] [1, 0], .callk 7 [] [.tup [.con (.int 1)], .tup [.con (.int 0), .tup [.con (.int 1), .con (.int 3), .con (.int 2)]], .var 1] [2, 1, 0]]),
  .ite (.or_ (.notv (.call 5 [.var 2, .tup [.tup [.tup [], .tup [.con (.int 0)], .tup [.con (.int 1)], .tup [.con (.int 2)]], .tup [.con (.int 0), .tup [.con (.int 2), .con (.int 1), .con (.int 3)]]]])) (.cmp .isnot (.callk 8 [] [.tup [.con (.int 1)], .tup [.con (.int 0), .tup [.con (.int 3), .con (.int 2)]], .var 0] [2, 1, 0]) (.con (.bool false)))) [.ret (.con (.bool false))] [],
  .ite (.or_ (.notv (.call 5 [.call 6 [.var 0, .tup [.con (.int 1), .tup [.con (.int 3), .con (.int 1)]]], .tup []])) (.notv (.call 5 [.call 6 [.var 0, .tup [.con (.int 1), .tup [.con (.int 2), .con (.int 3)]]], .tup [.tup []]]))) [.ret (.con (.bool false))] [],
  .ret (.and_ (.cmp .is_ (.call 8 [.var 0, .tup [.con (.int 2), .tup [.con (.int 3), .con (.int 4)]], .tup [.con (.int 0)]]) (.con (.bool false))) (.and_ (.cmp .is_ (.call 8 [.var 0, .tup [.con (.int 2), .tup [.con (.int 3), .con (.int 2)]], .tup [.con (.int 0)]]) (.con (.bool true))) (.call 5 [.call 7 [.var 0, .tup [.con (.int 2), .tup [.con (.int 3), .con (.int 2)]], .tup [.con (.int 0)]], .tup [.con (.int 0), .tup [.con (.int 1), .con (.int 3)]]])))]
def c_l_named : CC := { N := n_l_named, sc := defScope s_l_named, st := stOf (defScope s_l_named), fns := ["fresh_standing", "due_chores", "ready_chores", "slack_of", "all_standings", "_law_same", "let_lots", "next_standing", "is_let"], pars := fun _ => [], cons := [], gcd := false, lcm := false, pats := [(0, 0, ["book"], [0]), (1, 0, ["standing", "book"], [1, 0]), (2, 0, ["standing", "book"], [1, 0]), (3, 0, ["standing", "book"], [1, 0]), (4, 0, ["book"], [0]), (6, 0, ["standing", "book"], [1, 0]), (7, 0, ["lot", "standing", "book"], [2, 1, 0]), (8, 0, ["lot", "standing", "book"], [2, 1, 0])], excs := [], cats := [], top := true }
theorem sc_l_named : FnScope n_l_named [] (defScope s_l_named) := ⟨rfl, rfl, rfl, by decide +kernel, rfl, by decide +kernel, by decide +kernel⟩
theorem ck_l_named : chkSs (chkS 60 c_l_named) b_l_named (defBody s_l_named) = true := by decide +kernel
/-! _law_take(&tub, many); slots: 0 tub, 1 many, 2 cell, 3 got; calls:  -/
def s_l_take : Stmt := topS 13
def n_l_take : List Str := ["tub", "many", "cell", "got"]
def b_l_take : List GM.S := [.ite (.cmp .lt (.idx (.var 0) (.con (.int 1))) (.bi .len [.idx (.var 0) (.con (.int 0))])) [.asg (.nm 2) (.bi .abs [.idx (.idx (.var 0) (.con (.int 0))) (.idx (.var 0) (.con (.int 1)))]), .ite (.cmp .eq (.idx (.var 0) (.con (.int 2))) (.con (.int 0))) [.seti 0 (.con (.int 3)) (.bin .mod (.bi .int1 [.bin .add (.bin .add (.bin .mul (.idx (.var 0) (.con (.int 3))) (.con (.int 41203))) (.bin .mul (.bin .mod (.var 2) (.con (.int 999727))) (.con (.int 8539)))) (.con (.int 30047))]) (.con (.int 2147483489))), .seti 0 (.con (.int 2)) (.ife (.cmp .ge (.var 2) (.bin .pow (.con (.int 10)) (.con (.int 18)))) (.bin .fdiv (.var 2) (.bin .pow (.con (.int 10)) (.con (.int 18)))) (.neg (.con (.int 1))))] [], .ite (.cmp .gt (.idx (.var 0) (.con (.int 2))) (.con (.int 0))) [.asg (.nm 3) (.bin .mod (.bi .int1 [.idx (.var 0) (.con (.int 2))]) (.var 1)), .seti 0 (.con (.int 2)) (.bin .fdiv (.idx (.var 0) (.con (.int 2))) (.var 1)), .ite (.cmp .eq (.idx (.var 0) (.con (.int 2))) (.con (.int 0))) [.augi 0 (.con (.int 1)) .add (.con (.int 1))] [], .ret (.var 3)] [], .augi 0 (.con (.int 1)) .add (.con (.int 1)), .seti 0 (.con (.int 2)) (.con (.int 0))] [],
  .seti 0 (.con (.int 3)) (.bin .mod (.bi .int1 [.bin .add (.bin .add (.bin .mul (.idx (.var 0) (.con (.int 3))) (.con (.int 41203))) (.bin .mul (.idx (.var 0) (.con (.int 1))) (.con (.int 30047)))) (.con (.int 8539))]) (.con (.int 2147483489))),
  .ret (.bin .mod (.bi .int1 [.bin .fdiv (.idx (.var 0) (.con (.int 3))) (.con (.int 991))]) (.var 1))]
def c_l_take : CC := { N := n_l_take, sc := defScope s_l_take, st := stOf (defScope s_l_take), fns := [], pars := fun _ => [], cons := [], gcd := false, lcm := false, pats := [], excs := [], cats := [], top := true }
theorem sc_l_take : FnScope n_l_take ["tub", "many"] (defScope s_l_take) := ⟨rfl, rfl, rfl, by decide +kernel, rfl, by decide +kernel, by decide +kernel⟩
theorem ck_l_take : chkSs (chkS 60 c_l_take) b_l_take (defBody s_l_take) = true := by decide +kernel
/-! _law_chore(&tub, most); slots: 0 tub, 1 most, 2 habit, 3 greatest, 4 least; calls: 0 _law_take -/
def s_l_chore : Stmt := topS 16
def n_l_chore : List Str := ["tub", "most", "habit", "greatest", "least"]
def b_l_chore : List GM.S := [.asg (.nm 2) (.call 0 [.refv 0, .con (.int 5)]),
  .asg (.nm 3) (.bin .add (.con (.int 1)) (.call 0 [.refv 0, .var 1])),
  .asg (.nm 4) (.idx (.tup [.bin .add (.con (.int 1)) (.call 0 [.refv 0, .var 3]), .var 3, .con (.int 1), .con (.int 1), .bin .add (.con (.int 1)) (.call 0 [.refv 0, .var 3])]) (.var 2)),
  .ret (.tup [.var 4, .ife (.and_ (.cmp .eq (.var 2) (.con (.int 4))) (.cmp .eq (.call 0 [.refv 0, .con (.int 3)]) (.con (.int 0)))) (.var 1) (.var 3)])]
def c_l_chore : CC := { N := n_l_chore, sc := defScope s_l_chore, st := stOf (defScope s_l_chore), fns := ["_law_take"], pars := fun _ => [], cons := [], gcd := false, lcm := false, pats := [], excs := [], cats := [], top := true }
theorem sc_l_chore : FnScope n_l_chore ["tub", "most"] (defScope s_l_chore) := ⟨rfl, rfl, rfl, by decide +kernel, rfl, by decide +kernel, by decide +kernel⟩
theorem ck_l_chore : chkSs (chkS 60 c_l_chore) b_l_chore (defBody s_l_chore) = true := by decide +kernel
/-! _law_book(&tub, chores, most, days); slots: 0 tub, 1 chores, 2 most, 3 days, 4 rows, 5 k, 6 alike, 7 hands, 8 week, 9 day; calls: 0 _law_take, 1 _law_chore -/
def s_l_book : Stmt := topS 17
def n_l_book : List Str := ["tub", "chores", "most", "days", "rows", "k", "alike", "hands", "week", "day"]
def b_l_book : List GM.S := [.asg (.nm 4) (.lst []),
  .for_ (.nm 5) (.irng [.var 1]) [.asg (.nm 6) (.and_ (.cmp .gt (.var 5) (.con (.int 0))) (.cmp .eq (.call 0 [.refv 0, .con (.int 4)]) (.con (.int 0)))), .exp (.mth .append 4 [.ife (.var 6) (.idx (.var 4) (.call 0 [.refv 0, .var 5])) (.call 1 [.refv 0, .var 2])])],
  .asg (.nm 7) (.bin .add (.con (.int 1)) (.call 0 [.refv 0, .con (.int 6)])),
  .asg (.nm 8) (.bi .tup1 [.comp (.call 0 [.refv 0, .bin .add (.var 7) (.con (.int 1))]) (.nm 9) (.irng [.bin .add (.con (.int 1)) (.call 0 [.refv 0, .var 3])]) [] [9]]),
  .ret (.tup [.bi .tup1 [.var 4], .var 8])]
def c_l_book : CC := { N := n_l_book, sc := defScope s_l_book, st := stOf (defScope s_l_book), fns := ["_law_take", "_law_chore"], pars := fun _ => [], cons := [], gcd := false, lcm := false, pats := [], excs := [], cats := [], top := true }
theorem sc_l_book : FnScope n_l_book ["tub", "chores", "most", "days"] (defScope s_l_book) := ⟨rfl, rfl, rfl, by decide +kernel, rfl, by decide +kernel, by decide +kernel⟩
theorem ck_l_book : chkSs (chkS 60 c_l_book) b_l_book (defBody s_l_book) = true := by decide +kernel
/-! _law_small(&tub); slots: 0 tub, 1 chores, 2 most, 3 book, 4 many, 5 least, 6 greatest; calls: 0 _law_take, 1 _law_book -/
def s_l_small : Stmt := topS 24
def n_l_small : List Str := ["tub", "chores", "most", "book", "many", "least", "greatest"]
def b_l_small : List GM.S := [.asg (.nm 1) (.bin .add (.con (.int 1)) (.call 0 [.refv 0, .con (.int 3)])),
  .asg (.nm 2) (.idx (.tup [.con (.int 9), .con (.int 4), .con (.int 3)]) (.bin .sub (.var 1) (.con (.int 1)))),
  .asg (.nm 3) (.call 1 [.refv 0, .var 1, .var 2, .con (.int 3)]),
  .asg (.nm 4) (.con (.int 1)),
  .for_ (.tp [.nm 5, .nm 6]) (.idx (.var 3) (.con (.int 0))) [.asg (.nm 4) (.bin .mul (.var 4) (.var 6))],
  .ret (.ife (.cmp .le (.var 4) (.con (.int 60))) (.tup [.idx (.var 3) (.con (.int 0)), .slc (.idx (.var 3) (.con (.int 1))) none (some (.bi .max2 [.con (.int 1), .bin .fdiv (.con (.int 60)) (.var 4)]))]) (.tup [.slc (.idx (.var 3) (.con (.int 0))) none (some (.con (.int 2))), .slc (.idx (.var 3) (.con (.int 1))) none (some (.con (.int 1)))]))]
def c_l_small : CC := { N := n_l_small, sc := defScope s_l_small, st := stOf (defScope s_l_small), fns := ["_law_take", "_law_book"], pars := fun _ => [], cons := [], gcd := false, lcm := false, pats := [], excs := [], cats := [], top := true }
theorem sc_l_small : FnScope n_l_small ["tub"] (defScope s_l_small) := ⟨rfl, rfl, rfl, by decide +kernel, rfl, by decide +kernel, by decide +kernel⟩
theorem ck_l_small : chkSs (chkS 60 c_l_small) b_l_small (defBody s_l_small) = true := by decide +kernel
/-! _law_lots(many); slots: 0 many, 1 told, 2 mask, 3 c; calls:  -/
def s_l_lots : Stmt := topS 19
def n_l_lots : List Str := ["many", "told", "mask", "c"]
def b_l_lots : List GM.S := [.asg (.nm 1) (.lst []),
  .for_ (.nm 2) (.irng [.bin .shl (.con (.int 1)) (.var 0)]) [.exp (.mth .append 1 [.bi .tup1 [.comp (.var 3) (.nm 3) (.irng [.var 0]) [.cmp .eq (.bin .band (.bin .shr (.var 2) (.var 3)) (.con (.int 1))) (.con (.int 1))] [3]]])],
  .ret (.bi .sorted [.var 1])]
def c_l_lots : CC := { N := n_l_lots, sc := defScope s_l_lots, st := stOf (defScope s_l_lots), fns := [], pars := fun _ => [], cons := [], gcd := false, lcm := false, pats := [], excs := [], cats := [], top := true }
theorem sc_l_lots : FnScope n_l_lots ["many"] (defScope s_l_lots) := ⟨rfl, rfl, rfl, by decide +kernel, rfl, by decide +kernel, by decide +kernel⟩
theorem ck_l_lots : chkSs (chkS 60 c_l_lots) b_l_lots (defBody s_l_lots) = true := by decide +kernel
/-! _law_is_let(book, standing, lot); slots: 0 book, 1 standing, 2 lot, 3 day, 4 ages, 5 c; calls:  -/
def s_l_is_let : Stmt := topS 20
def n_l_is_let : List Str := ["book", "standing", "lot", "day", "ages", "c"]
def b_l_is_let : List GM.S := [.asg (.tp [.nm 3, .nm 4]) (.var 1),
  .ite (.or_ (.cmp .gt (.bi .len [.var 2]) (.idx (.idx (.var 0) (.con (.int 1))) (.var 3))) (.cmp .gt (.bi .len [.comp (.var 5) (.nm 5) (.var 2) [.cmp .lt (.idx (.var 4) (.var 5)) (.idx (.idx (.idx (.var 0) (.con (.int 0))) (.var 5)) (.con (.int 0)))] [5]]) (.con (.int 0)))) [.ret (.con (.bool false))] [],
  .ret (.cmp .eq (.bi .len [.comp (.var 5) (.nm 5) (.irng [.bi .len [.var 4]]) [.and_ (.cmp .eq (.idx (.var 4) (.var 5)) (.idx (.idx (.idx (.var 0) (.con (.int 0))) (.var 5)) (.con (.int 1)))) (.cmp .notin (.var 5) (.var 2))] [5]]) (.con (.int 0)))]
def c_l_is_let : CC := { N := n_l_is_let, sc := defScope s_l_is_let, st := stOf (defScope s_l_is_let), fns := [], pars := fun _ => [], cons := [], gcd := false, lcm := false, pats := [], excs := [], cats := [], top := true }
theorem sc_l_is_let : FnScope n_l_is_let ["book", "standing", "lot"] (defScope s_l_is_let) := ⟨rfl, rfl, rfl, by decide +kernel, rfl, by decide +kernel, by decide +kernel⟩
theorem ck_l_is_let : chkSs (chkS 60 c_l_is_let) b_l_is_let (defBody s_l_is_let) = true := by decide +kernel
/-! _law_next(book, standing, lot); slots: 0 book, 1 standing, 2 lot, 3 day, 4 ages, 5 c; calls:  -/
def s_l_next : Stmt := topS 21
def n_l_next : List Str := ["book", "standing", "lot", "day", "ages", "c"]
def b_l_next : List GM.S := [.asg (.tp [.nm 3, .nm 4]) (.var 1),
  .ret (.tup [.bin .mod (.bi .int1 [.bin .add (.var 3) (.con (.int 1))]) (.bi .len [.idx (.var 0) (.con (.int 1))]), .bi .tup1 [.comp (.ife (.cmp .in_ (.var 5) (.var 2)) (.con (.int 1)) (.bin .add (.idx (.var 4) (.var 5)) (.con (.int 1)))) (.nm 5) (.irng [.bi .len [.var 4]]) [] [5]]])]
def c_l_next : CC := { N := n_l_next, sc := defScope s_l_next, st := stOf (defScope s_l_next), fns := [], pars := fun _ => [], cons := [], gcd := false, lcm := false, pats := [], excs := [], cats := [], top := true }
theorem sc_l_next : FnScope n_l_next ["book", "standing", "lot"] (defScope s_l_next) := ⟨rfl, rfl, rfl, by decide +kernel, rfl, by decide +kernel, by decide +kernel⟩
theorem ck_l_next : chkSs (chkS 60 c_l_next) b_l_next (defBody s_l_next) = true := by decide +kernel
/-! _law_looked(&tub, book, standing); slots: 0 tub, 1 book, 2 standing, 3 day, 4 ages, 5 count, 6 due, 7 c, 8 ready, 9 slack, 10 lots, 11 let, 12 lot, 13 lap, 14 told; calls: 0 due_chores, 1 ready_chores, 2 slack_of, 3 _law_same, 4 _law_lots, 5 _law_is_let, 6 let_lots, 7 _law_take, 8 is_let, 9 next_standing, 10 _law_next -/
def s_l_looked : Stmt := topS 22
def n_l_looked : List Str := ["tub", "book", "standing", "day", "ages", "count", "due", "c", "ready", "slack", "lots", "let", "lot", "lap", "told"]
def b_l_looked : List GM.S := [.asg (.tp [.nm 3, .nm 4]) (.var 2),
  .asg (.nm 5) (.bi .rngL [.bi .len [.var 4]]),
  .asg (.nm 6) (.bi .tup1 [.comp (.var 7) (.nm 7) (.var 5) [.cmp .eq (.idx (.var 4) (.var 7)) (.idx (.idx (.idx (.var 1) (.con (.int 0))) (.var 7)) (.con (.int 1)))] [7]]),
  .asg (.nm 8) (.bi .tup1 [.comp (.var 7) (.nm 7) (.var 5) [.cmp .ge (.idx (.var 4) (.var 7)) (.idx (.idx (.idx (.var 1) (.con (.int 0))) (.var 7)) (.con (.int 0)))] [7]]),
  .asg (.nm 9) (.bi .min1 [.comp (.bin .sub (.idx (.idx (.idx (.var 1) (.con (.int 0))) (.var 7)) (.con (.int 1))) (.idx (.var 4) (.var 7))) (.nm 7) (.var 5) [] [7]]),
  .ite (.notv (.call 3 [.tup [.call 0 [.var 1, .var 2], .call 1 [.var 1, .var 2], .call 2 [.var 1, .var 2]], .tup [.var 6, .var 8, .var 9]])) [.ret (.con (.bool false))] [],
  .asg (.nm 10) (.call 4 [.bi .len [.var 4]]),
  .asg (.nm 11) (.comp (.var 12) (.nm 12) (.var 10) [.call 5 [.var 1, .var 2, .var 12]] [12]),
  .ite (.notv (.call 3 [.call 6 [.var 1, .var 2], .bi .tup1 [.var 11]])) [.ret (.con (.bool false))] [],
  .for_ (.nm 12) (.ife (.cmp .lt (.bi .len [.var 10]) (.con (.int 9))) (.var 10) (.comp (.idx (.var 10) (.call 7 [.refv 0, .bi .len [.var 10]])) (.nm 13) (.irng [.con (.int 6)]) [] [13])) [.asg (.nm 14) (.call 8 [.var 1, .var 2, .var 12]), .ite (.or_ (.notv (.bi (.isi [1]) [.var 14])) (.cmp .ne (.var 14) (.cmp .in_ (.var 12) (.var 11)))) [.ret (.con (.bool false))] []],
  .for_ (.nm 12) (.ife (.cmp .gt (.bi .len [.var 11]) (.con (.int 0))) (.comp (.idx (.var 11) (.call 7 [.refv 0, .bi .len [.var 11]])) (.nm 13) (.irng [.con (.int 2)]) [] [13]) (.lst [])) [.ite (.notv (.call 3 [.call 9 [.var 1, .var 2, .var 12], .call 10 [.var 1, .var 2, .var 12]])) [.ret (.con (.bool false))] []],
  .ret (.con (.bool true))]
def c_l_looked : CC := { N := n_l_looked, sc := defScope s_l_looked, st := stOf (defScope s_l_looked), fns := ["due_chores", "ready_chores", "slack_of", "_law_same", "_law_lots", "_law_is_let", "let_lots", "_law_take", "is_let", "next_standing", "_law_next"], pars := fun _ => [], cons := [], gcd := false, lcm := false, pats := [], excs := [], cats := [], top := true }
theorem sc_l_looked : FnScope n_l_looked ["tub", "book", "standing"] (defScope s_l_looked) := ⟨rfl, rfl, rfl, by decide +kernel, rfl, by decide +kernel, by decide +kernel⟩
theorem ck_l_looked : chkSs (chkS 60 c_l_looked) b_l_looked (defBody s_l_looked) = true := by decide +kernel
/-! _law_standing(&tub, book); slots: 0 tub, 1 book, 2 habit, 3 ages, 4 least, 5 greatest; calls: 0 _law_take -/
def s_l_standing : Stmt := topS 18
def n_l_standing : List Str := ["tub", "book", "habit", "ages", "least", "greatest"]
def b_l_standing : List GM.S := [.asg (.nm 2) (.call 0 [.refv 0, .con (.int 4)]),
  .asg (.nm 3) (.lst []),
  .for_ (.tp [.nm 4, .nm 5]) (.idx (.var 1) (.con (.int 0))) [.exp (.mth .append 3 [.idx (.tup [.bin .add (.con (.int 1)) (.call 0 [.refv 0, .var 5]), .var 5, .bi .min2 [.var 4, .var 5], .bin .add (.con (.int 1)) (.call 0 [.refv 0, .var 5])]) (.ife (.cmp .gt (.call 0 [.refv 0, .con (.int 3)]) (.con (.int 0))) (.var 2) (.con (.int 0)))])],
  .ret (.tup [.call 0 [.refv 0, .bi .len [.idx (.var 1) (.con (.int 1))]], .bi .tup1 [.var 3]])]
def c_l_standing : CC := { N := n_l_standing, sc := defScope s_l_standing, st := stOf (defScope s_l_standing), fns := ["_law_take"], pars := fun _ => [], cons := [], gcd := false, lcm := false, pats := [], excs := [], cats := [], top := true }
theorem sc_l_standing : FnScope n_l_standing ["tub", "book"] (defScope s_l_standing) := ⟨rfl, rfl, rfl, by decide +kernel, rfl, by decide +kernel, by decide +kernel⟩
theorem ck_l_standing : chkSs (chkS 60 c_l_standing) b_l_standing (defBody s_l_standing) = true := by decide +kernel
/-! law(&script); slots: 0 script, 1 tub, 2 lap, 3 book, 4 found, 5 count; calls: 0 _law_tub, 1 _law_named, 2 _law_small, 3 _law_all, 4 fresh_standing, 5 _law_same, 6 all_standings, 7 _law_take, 8 _law_looked, 9 _law_book, 10 _law_standing -/
def s_law : Stmt := topS 26
def n_law : List Str := ["script", "tub", "lap", "book", "found", "count"]
def b_law : List GM.S := [.asg (.nm 1) (.call 0 [.refv 0]),
  .ite (.notv (.call 1 [])) [.ret (.con (.bool false))] [],
  .for_ (.nm 2) (.irng [.con (.int 2)]) [.asg (.nm 3) (.call 2 [.refv 1]), .asg (.nm 4) (.call 3 [.var 3]), .ite (.or_ (.notv (.call 5 [.call 6 [.var 3], .var 4])) (.notv (.call 5 [.call 4 [.var 3], .tup [.con (.int 0), .bin .mul (.tup [.con (.int 1)]) (.bi .len [.idx (.var 3) (.con (.int 0))])]]))) [.ret (.con (.bool false))] [], .for_ (.nm 5) (.irng [.con (.int 4)]) [.ite (.notv (.call 8 [.refv 1, .var 3, .idx (.var 4) (.call 7 [.refv 1, .bi .len [.var 4]])])) [.ret (.con (.bool false))] []]],
  .for_ (.nm 2) (.irng [.con (.int 3)]) [.asg (.nm 3) (.call 9 [.refv 1, .bin .add (.con (.int 1)) (.call 7 [.refv 1, .con (.int 6)]), .idx (.tup [.con (.int 3), .con (.int 9), .con (.int 40)]) (.call 7 [.refv 1, .con (.int 3)]), .con (.int 7)]), .ite (.notv (.call 8 [.refv 1, .var 3, .call 10 [.refv 1, .var 3]])) [.ret (.con (.bool false))] []],
  .ite (.cmp .ne (.call 7 [.refv 1, .con (.int 11)]) (.con (.int 5))) [.ret (.con (.bool true))] [],
  .asg (.nm 3) (.tup [.tup [.tup [.con (.int 1), .con (.int 4)], .tup [.con (.int 2), .con (.int 5)], .tup [.bin .add (.con (.int 1)) (.call 7 [.refv 1, .con (.int 6)]), .con (.int 6)]], .slc (.tup [.con (.int 1), .con (.int 0), .con (.int 2), .con (.int 3), .con (.int 1)]) none (some (.bin .add (.con (.int 1)) (.call 7 [.refv 1, .con (.int 5)])))]),
  .asg (.nm 4) (.call 3 [.var 3]),
  .ret (.and_ (.call 5 [.call 6 [.var 3], .var 4]) (.call 8 [.refv 1, .var 3, .idx (.var 4) (.call 7 [.refv 1, .bi .len [.var 4]])]))]
def c_law : CC := { N := n_law, sc := defScope s_law, st := stOf (defScope s_law), fns := ["_law_tub", "_law_named", "_law_small", "_law_all", "fresh_standing", "_law_same", "all_standings", "_law_take", "_law_looked", "_law_book", "_law_standing"], pars := fun _ => [], cons := [], gcd := false, lcm := false, pats := [], excs := [], cats := [], top := true }
theorem sc_law : FnScope n_law ["script"] (defScope s_law) := ⟨rfl, rfl, rfl, by decide +kernel, rfl, by decide +kernel, by decide +kernel⟩
theorem ck_law : chkSs (chkS 60 c_law) b_law (defBody s_law) = true := by decide +kernel
end GL

set_option maxRecDepth 100000
set_option maxHeartbeats 0
namespace GL
open PySem PySem.Spec PyProof.Rows L2 GM
local macro_rules | `(tactic| walk_at "gw") => `(tactic| conv => whnf)
local macro_rules | `(tactic| walk_at "g1") => `(tactic| first | refine optP_of rfl ?_ | (apply envP_of; focus ((try simp only [GM.start, List.map, List.length, List.reduceReplicate, Nat.reduceAdd, Nat.reduceSub, List.cons_append, List.nil_append, GM.put, GM.wb, GM.putR, GM.updE, GM.putF, List.reverse_cons, List.reverse_nil]); exact rfl)) | (refine ckP_of ?_ ?_; exact True.intro) | (refine ckP_of ?_ ?_; exact rfl) | (refine ckP_of ?_ ?_; exact ⟨rfl, rfl⟩) | (refine ckP_of ?_ ?_; exact ⟨True.intro, True.intro⟩) | (refine ckP_of ?_ ?_; exact asg_fr (by assumption) rfl) | (refine ckP_of ?_ ?_; exact ⟨asg_fr (by assumption) rfl, True.intro⟩) | refine brP_t rfl ?_ | refine brP_f rfl ?_ | fail)
local macro_rules | `(tactic| walk_at "gm") => `(tactic| (walk_at "gw"; repeat' (walk_at "g1"; walk_at "gw")))
/-- the law's tub: the cells, three numbers -/
def TubOk (p : List PyData) : Prop := ∃ (cs : List Int) (a b c : Int), p = [.list (cs.map .int), .int a, .int b, .int c] ∧ 0 ≤ a
def takeS : FS := { α := List PyData × Int, args := fun a => [.r a.1, .v (.int a.2)], pre := fun a => TubOk a.1 ∧ 0 < a.2 ∧ a.2 < 1073741824, post := fun a r us' => ∃ (k : Int) (p : List PyData), r = .v (.int k) ∧ 0 ≤ k ∧ k < a.2 ∧ TubOk p ∧ us' = [.r p, .v (.int a.2)] }
theorem call_take {o : Option FS} {p : List PyData} {m : Int} {Qx : EX → List U → Prop} {Q : U → List U → Prop} (ho : o = some takeS) (h : TubOk p) (h1 : 0 < m) (h2 : m < 1073741824) (q : ∀ k p', 0 ≤ k → k < m → TubOk p' → Q (.v (.int k)) [.r p', .v (.int m)]) : callP o [.r p, .v (.int m)] Qx Q :=
  callP_of takeS ho (p, m) rfl ⟨h, h1, h2⟩ (by rintro r us' ⟨k, p', rfl, k1, k2, k3, rfl⟩; exact q k p' k1 k2 k3) fun _ _ h => h.elim
theorem pow18 : powC 10 18 := ⟨by decide, by decide, by decide⟩
theorem p2147 : (0 : Int) < 2147483489 := by decide
theorem w_l_take (p : List PyData) (m : Int) (hp : TubOk p) (h1 : 0 < m) (h2 : m < 1073741824) : wpF (gam []) 60 b_l_take 4 [.r p, .v (.int m)] (fun r us' => ∃ (k : Int) (p : List PyData), r = .v (.int k) ∧ 0 ≤ k ∧ k < m ∧ TubOk p ∧ us' = [.r p, .v (.int m)]) (fun _ _ => False) := by
  obtain ⟨cs, a, b, c, rfl, ha⟩ := hp
  have hm : divC m := ⟨h1, .inl h2⟩
  have hm0 := Int.emod_nonneg
  have p1 : ∀ z : Int, 0 ≤ z → z < 18446744073709551616 → ∀ i, mulC i z := fun z k1 k2 i => mulC_r k1 k2
  walk_at "gm"
  refine brP_of (fun h => ?_) fun h => ?_
  · have h := of_decide_eq_true h
    simp only [List.length_map] at h
    have hk : a.toNat < (cs.map PyData.int).length := by simp; omega
    obtain ⟨x, hx⟩ : ∃ x, (cs.map PyData.int)[a.toNat] = .int x := by simp
    walk_at "gm"
    refine optP_of (idx_list ha (List.getElem?_eq_getElem hk)) ?_
    rw [hx]
    clear hx h hk
    have p999 : (0 : Int) < 999727 := by decide
    walk_at "gm"
    refine brP_of (fun h => ?_) fun h => ?_
    · walk_at "gm"
      refine ckP_of (p1 _ (by decide) (by decide) _) ?_
      walk_at "gm"
      refine ckP_of p999 ?_
      walk_at "gm"
      refine ckP_of (p1 _ (by decide) (by decide) _) ?_
      walk_at "gm"
      refine ckP_of p2147 ?_
      walk_at "gm"
      refine ckP_of pow18 ?_
      walk_at "gm"
      have hT : (10 : Int) ^ (18 : Int).toNat = 1000000000000000000 := by decide +kernel
      rw [hT]
      refine brP_of (fun h => ?_) fun h => ?_
      · walk_at "gm"
        refine ckP_of pow18 ?_
        walk_at "gm"
        rw [hT]
        refine ckP_of (divC_big (by decide) (by decide)) ?_
        walk_at "gm"
        refine brP_of (fun h => ?_) fun h => ?_
        · walk_at "gm"
          refine ckP_of h1 ?_
          walk_at "gm"
          refine ckP_of hm ?_
          walk_at "gm"
          refine brP_of (fun h => ?_) fun h => ?_
          · walk_at "gm"
            exact ⟨_, _, rfl, hm0 _ (by omega), Int.emod_lt_of_pos _ h1, ⟨cs, a + 1, _, _, rfl, by omega⟩, rfl⟩
          · walk_at "gm"
            exact ⟨_, _, rfl, hm0 _ (by omega), Int.emod_lt_of_pos _ h1, ⟨cs, a, _, _, rfl, by omega⟩, rfl⟩
        · walk_at "gm"
          refine ckP_of (p1 _ (by decide) (by decide) _) ?_
          walk_at "gm"
          refine ckP_of (p1 _ (by decide) (by decide) _) ?_
          walk_at "gm"
          refine ckP_of p2147 ?_
          walk_at "gm"
          refine ckP_of (divC_of (by decide) (by decide)) ?_
          walk_at "gm"
          refine ckP_of h1 ?_
          walk_at "gm"
          exact ⟨_, _, rfl, hm0 _ (by omega), Int.emod_lt_of_pos _ h1, ⟨cs, _, _, _, rfl, by omega⟩, rfl⟩
      · walk_at "gm"
        refine ckP_of (p1 _ (by decide) (by decide) _) ?_
        walk_at "gm"
        refine ckP_of (p1 _ (by decide) (by decide) _) ?_
        walk_at "gm"
        refine ckP_of p2147 ?_
        walk_at "gm"
        refine ckP_of (divC_of (by decide) (by decide)) ?_
        walk_at "gm"
        refine ckP_of h1 ?_
        walk_at "gm"
        exact ⟨_, _, rfl, hm0 _ (by omega), Int.emod_lt_of_pos _ h1, ⟨cs, _, _, _, rfl, by omega⟩, rfl⟩
    · walk_at "gm"
      refine brP_of (fun h => ?_) fun h => ?_
      · walk_at "gm"
        refine ckP_of h1 ?_
        walk_at "gm"
        refine ckP_of hm ?_
        walk_at "gm"
        refine brP_of (fun h => ?_) fun h => ?_
        · walk_at "gm"
          exact ⟨_, _, rfl, hm0 _ (by omega), Int.emod_lt_of_pos _ h1, ⟨cs, a + 1, _, _, rfl, by omega⟩, rfl⟩
        · walk_at "gm"
          exact ⟨_, _, rfl, hm0 _ (by omega), Int.emod_lt_of_pos _ h1, ⟨cs, a, _, _, rfl, by omega⟩, rfl⟩
      · walk_at "gm"
        refine ckP_of (p1 _ (by decide) (by decide) _) ?_
        walk_at "gm"
        refine ckP_of (p1 _ (by decide) (by decide) _) ?_
        walk_at "gm"
        refine ckP_of p2147 ?_
        walk_at "gm"
        refine ckP_of (divC_of (by decide) (by decide)) ?_
        walk_at "gm"
        refine ckP_of h1 ?_
        walk_at "gm"
        exact ⟨_, _, rfl, hm0 _ (by omega), Int.emod_lt_of_pos _ h1, ⟨cs, _, _, _, rfl, by omega⟩, rfl⟩
  · walk_at "gm"
    refine ckP_of (p1 _ (by decide) (by decide) _) ?_
    walk_at "gm"
    refine ckP_of (p1 _ (by decide) (by decide) _) ?_
    walk_at "gm"
    refine ckP_of p2147 ?_
    walk_at "gm"
    refine ckP_of (divC_of (by decide) (by decide)) ?_
    walk_at "gm"
    refine ckP_of h1 ?_
    walk_at "gm"
    exact ⟨_, _, rfl, hm0 _ (by omega), Int.emod_lt_of_pos _ h1, ⟨cs, _, _, _, rfl, by omega⟩, rfl⟩
end GL

set_option maxRecDepth 100000
set_option maxHeartbeats 0
namespace GL
open PySem PySem.Spec PyProof.Rows L2 GM
local macro_rules | `(tactic| walk_at "gw") => `(tactic| conv => whnf)
local macro_rules | `(tactic| walk_at "g1") => `(tactic| first | refine optP_of rfl ?_ | (apply envP_of; focus ((try simp only [GM.start, List.map, List.length, List.reduceReplicate, Nat.reduceAdd, Nat.reduceSub, List.cons_append, List.nil_append, GM.put, GM.wb, GM.putR, GM.updE, GM.putF, List.reverse_cons, List.reverse_nil]); exact rfl)) | (refine ckP_of ?_ ?_; exact True.intro) | (refine ckP_of ?_ ?_; exact rfl) | (refine ckP_of ?_ ?_; exact ⟨rfl, rfl⟩) | (refine ckP_of ?_ ?_; exact ⟨True.intro, True.intro⟩) | (refine ckP_of ?_ ?_; exact asg_fr (by assumption) rfl) | (refine ckP_of ?_ ?_; exact ⟨asg_fr (by assumption) rfl, True.intro⟩) | refine brP_t rfl ?_ | refine brP_f rfl ?_ | fail)
local macro_rules | `(tactic| walk_at "gm") => `(tactic| (walk_at "gw"; repeat' (walk_at "g1"; walk_at "gw")))
theorem ev_refl_i (x : Int) : (!PyData.eqv (.int x) (.int x)) = false := by rw [PyData.eqv]; simp
theorem w_l_same (d : PyData) (ok : okT d = true) (sz : szD d ≤ 1000000) : wpF (gam []) 60 b_l_same 7 [.v d, .v d] (fun r us' => r = .v (.bool true) ∧ us' = [.v d, .v d]) (fun _ _ => False) := by
  walk_at "gm"
  refine ckP_of ⟨by decide, by decide⟩ ?_
  walk_at "gw"
  refine forP_inv (fun i e => ∃ (ds : List PyData) (k a b c : Option U), e = [some (.v d), some (.v d), some (.o (ds.map fun x => .tuple [x, x])), k, a, b, c] ∧ Fre k ∧ Fre a ∧ Fre b ∧ Fre c ∧ okTs ds = true ∧ szDs ds + i ≤ 1000000) ?_ ?_ ?_
  · exact ⟨[d], none, none, none, none, rfl, .no, .no, .no, .no, by simp [okTs, ok], by simp [szDs, sz]⟩
  · rintro i x e nx hx ⟨ds, k, a, b, c, rfl, hk, ha, hb, hc, hok, hle⟩ hn
    obtain ⟨_, rfl⟩ := rng_get hx
    clear hx
    walk_at "gm"
    refine brP_of (fun h => ?_) fun h => ?_
    · walk_at "gm"
      exact ⟨rfl, rfl⟩
    · have hne : ds ≠ [] := by
        rintro rfl
        rw [List.map_nil, List.length_nil, eqv_int] at h
        simp at h
      obtain ⟨ms, y, rfl⟩ := List.eq_nil_or_concat ds |>.resolve_left hne
      rw [List.concat_eq_append] at *
      rw [List.map_append] at *
      rw [okTs_app] at hok
      rw [szDs_app] at hle
      obtain ⟨hok1, hok2⟩ := and_split hok
      have hy : okT y = true := by simpa [okTs] using hok2
      have hys : szDs [y] = szD y := by simp [szDs]
      have hy1 := szT_pos hy
      walk_at "gm"
      refine optP_of (pop_last _ _) ?_
      walk_at "gm"
      cases y with
      | none => walk_at "gm"; exact hn _ ⟨ms, _, _, _, _, rfl, .v _, .v _, .v _, hc, hok1, by omega⟩
      | bool x =>
        walk_at "gm"
        have e : (!PyData.eqv (.bool x) (.bool x)) = false := by rw [PyData.eqv]; simp
        refine brP_f e ?_
        walk_at "gm"
        exact hn _ ⟨ms, _, _, _, _, rfl, .v _, .v _, .v _, hc, hok1, by omega⟩
      | int x =>
        walk_at "gm"
        refine brP_f (ev_refl_i x) ?_
        walk_at "gm"
        exact hn _ ⟨ms, _, _, _, _, rfl, .v _, .v _, .v _, hc, hok1, by omega⟩
      | str x =>
        have hs : PyData.canLay0 (.str x) = true := by simpa [okT] using hy
        walk_at "gm"
        refine ckP_of ⟨shpStr hs, shpStr hs⟩ ?_
        walk_at "gm"
        have e : (!PyData.eqv (.str x) (.str x)) = false := by rw [PyData.eqv]; simp
        refine brP_f e ?_
        walk_at "gm"
        exact hn _ ⟨ms, _, _, _, _, rfl, .v _, .v _, .v _, hc, hok1, by omega⟩
      | list x => simp [okT] at hy
      | tuple x =>
        rw [okT_tup] at hy
        have hz : szD (.tuple x) = szDs x + 1 := by simp [szD]
        have hl := lenT_sz hy
        have hl1 := lenT_sz hok1
        walk_at "gm"
        refine brP_f (ev_refl_i _) ?_
        walk_at "gm"
        refine ckP_of ⟨by omega, by omega⟩ ?_
        walk_at "gw"
        refine forP_inv (fun j e => ∃ c, Fre c ∧ e = [some (.v d), some (.v d), some (.o ((ms ++ x.take j).map fun x => .tuple [x, x])), some (.v (.int (0 + i))), some (.v (.tuple x)), some (.v (.tuple x)), c]) ⟨c, hc, by simp; rfl⟩ ?_ ?_
        · rintro j z e nx2 hz2 ⟨c2, hc2, rfl⟩ hn2
          obtain ⟨hi, rfl⟩ := rng_get hz2
          have hi : j < x.length := by omega
          rw [Int.zero_add]
          walk_at "gm"
          refine optP_of (idx_tup (by omega) (List.getElem?_eq_getElem (by omega))) ?_
          walk_at "gm"
          refine optP_of (idx_tup (by omega) (List.getElem?_eq_getElem (by omega))) ?_
          walk_at "gm"
          refine ckP_of ?_ ?_
          · show ((ms ++ x.take j).map fun x => PyData.tuple [x, x]).length < LIM
            simp
            unfold LIM
            omega
          walk_at "gm"
          refine hn2 _ ⟨some (.v (.int j)), .v _, ?_⟩
          have e1 : x.take (j + 1) = x.take j ++ [x[j]] := by rw [List.take_add_one, List.getElem?_eq_getElem hi]; rfl
          have e2 : (ms ++ x.take (j + 1)).map (fun x => PyData.tuple [x, x]) = (ms ++ x.take j).map (fun x => PyData.tuple [x, x]) ++ [.tuple [x[j], x[j]]] := by
            rw [e1, ← List.append_assoc, List.map_append]; rfl
          rw [e2]
          rfl
        · rintro e ⟨c2, hc2, rfl⟩
          have e3 : x.take (rngI 0 ((x.length : Int)).toNat).length = x := by rw [rngI_length]; simp
          rw [e3]
          exact hn _ ⟨ms ++ x, _, _, _, _, rfl, .v _, .v _, .v _, hc2, by rw [okTs_app, hok1, hy]; rfl, by rw [szDs_app]; omega⟩
      | dict x => simp [okT] at hy
  · rintro e ⟨ds, k, a, b, c, rfl, hk, ha, hb, hc, hok, hle⟩
    rw [rngI_length] at hle
    omega
theorem w_l_tub (ns : List Int) : wpF (gam []) 60 b_l_tub 2 [.s ns] (fun r us' => ∃ p, r = .o p ∧ TubOk p ∧ us' = [.s ns]) (fun _ _ => False) := by
  walk_at "gm"
  rw [show (63 : Int) = ((63 : Nat) : Int) from rfl, cut_none]
  refine ckP_of ⟨⟨True.intro, True.intro⟩, by simp; unfold LIM; omega⟩ ?_
  refine compP_map id ?_ ?_
  · intro x hx nx hn
    obtain ⟨c, _, rfl⟩ := List.mem_map.mp (List.mem_of_mem_take hx)
    walk_at "gm"
    exact hn
  walk_at "gm"
  exact ⟨_, rfl, ⟨ns.take 63, 0, 0, 95311, by rw [List.map_id, List.map_take], by decide⟩, rfl⟩
def iiD (p : Int × Int) : PyData := .tuple [.int p.1, .int p.2]
theorem take_get {α : Type} {xs : List α} {i : Nat} {x : α} (h : xs[i]? = some x) : xs.take (i + 1) = xs.take i ++ [x] := by rw [List.take_add_one, h]; rfl
def rowsD (cs : List (Int × Int)) : List PyData := cs.map iiD
def bkD (cs : List (Int × Int)) (w : List Int) : PyData := .tuple [.tuple (rowsD cs), .tuple (w.map .int)]
structure ChOk (cs : List (Int × Int)) : Prop where
  ne : cs ≠ []
  le : cs.length ≤ 6
  all : ∀ c ∈ cs, 1 ≤ c.1 ∧ c.1 ≤ c.2 ∧ c.2 ≤ 40
structure WkOk (w : List Int) : Prop where
  ne : w ≠ []
  le : w.length ≤ 7
  all : ∀ x ∈ w, 0 ≤ x ∧ x ≤ 6
def wAt (w : List Int) (i : Int) : Int := (w[i.toNat]?).getD 0
theorem ixw {w : List Int} {i : Int} (h0 : 0 ≤ i) (h1 : i < w.length) : idxD (.tuple (w.map .int)) (.int i) = some (.int (wAt w i)) := by
  refine idx_tup h0 ?_
  have : i.toNat < w.length := by omega
  simp [wAt, this]
theorem len_rows (cs : List (Int × Int)) : (rowsD cs).length = cs.length := by simp [rowsD]
theorem len_int (w : List Int) : (w.map PyData.int).length = w.length := by simp
def sndD : PyData → PyData
  | .tuple [_, b] => b
  | d => d
theorem map_snd (cs : List (Int × Int)) : (rowsD cs).map sndD = (cs.map Prod.snd).map .int := by simp [rowsD, sndD, iiD, Function.comp_def]
theorem row_mem {cs : List (Int × Int)} {x : PyData} (h : x ∈ rowsD cs) : ∃ a b, x = iiD (a, b) ∧ (a, b) ∈ cs := by
  obtain ⟨c, hc, rfl⟩ := List.mem_map.mp h
  exact ⟨c.1, c.2, rfl, hc⟩
theorem bi_maxT (ns : List Int) : biD .max1 [.tuple (ns.map .int)] = some (.v (.int (maxI ns))) := by simp [biD, seqD, ints_some]
def chS : FS := { α := List PyData × Int, args := fun a => [.r a.1, .v (.int a.2)], pre := fun a => TubOk a.1 ∧ 1 ≤ a.2 ∧ a.2 ≤ 40, post := fun a r us' => ∃ (x y : Int) (p : List PyData), r = .v (iiD (x, y)) ∧ 1 ≤ x ∧ x ≤ y ∧ y ≤ a.2 ∧ TubOk p ∧ us' = [.r p, .v (.int a.2)] }
theorem call_ch {o : Option FS} {p : List PyData} {m : Int} {Qx : EX → List U → Prop} {Q : U → List U → Prop} (ho : o = some chS) (h : TubOk p) (h1 : 1 ≤ m) (h2 : m ≤ 40) (q : ∀ x y p', 1 ≤ x → x ≤ y → y ≤ m → TubOk p' → Q (.v (iiD (x, y))) [.r p', .v (.int m)]) : callP o [.r p, .v (.int m)] Qx Q :=
  callP_of chS ho (p, m) rfl ⟨h, h1, h2⟩ (by rintro r us' ⟨x, y, p', rfl, k1, k2, k3, k4, rfl⟩; exact q x y p' k1 k2 k3 k4) fun _ _ h => h.elim
def inR (g : Int) (d : PyData) : Prop := ∃ n, d = .int n ∧ 1 ≤ n ∧ n ≤ g
theorem w_l_chore (p : List PyData) (m : Int) (hp : TubOk p) (h1 : 1 ≤ m) (h2 : m ≤ 40) : wpF (gam [takeS]) 60 b_l_chore 5 [.r p, .v (.int m)] (fun r us' => ∃ (x y : Int) (p : List PyData), r = .v (iiD (x, y)) ∧ 1 ≤ x ∧ x ≤ y ∧ y ≤ m ∧ TubOk p ∧ us' = [.r p, .v (.int m)]) (fun _ _ => False) := by
  walk_at "gm"
  refine call_take rfl hp (by decide) (by decide) fun k1 p1 k10 k11 hp1 => ?_
  walk_at "gm"
  refine call_take rfl hp1 (by omega) (by omega) fun k2 p2 k20 k21 hp2 => ?_
  walk_at "gm"
  refine call_take rfl hp2 (by omega) (by omega) fun k3 p3 k30 k31 hp3 => ?_
  walk_at "gm"
  refine call_take rfl hp3 (by omega) (by omega) fun k4 p4 k40 k41 hp4 => ?_
  walk_at "gm"
  obtain ⟨x, hx, n, rfl, n1, n2⟩ := pick_tup (xs := [.int (1 + k3), .int (1 + k2), .int 1, .int 1, .int (1 + k4)]) (i := k1) (P := inR (1 + k2)) k10 (by simpa using k11) (by
    intro x hx
    simp only [List.mem_cons, List.not_mem_nil, or_false] at hx
    rcases hx with rfl | rfl | rfl | rfl | rfl <;> exact ⟨_, rfl, by omega, by omega⟩)
  refine optP_of hx ?_
  walk_at "gm"
  refine brP_of (fun h => ?_) fun h => ?_
  · walk_at "gm"
    refine call_take rfl hp4 (by decide) (by decide) fun k5 p5 k50 k51 hp5 => ?_
    walk_at "gm"
    refine brP_of (fun h => ?_) fun h => ?_
    · walk_at "gm"
      exact ⟨n, m, p5, rfl, n1, by omega, by omega, hp5, rfl⟩
    · walk_at "gm"
      exact ⟨n, 1 + k2, p5, rfl, n1, by omega, by omega, hp5, rfl⟩
  · walk_at "gm"
    exact ⟨n, 1 + k2, p4, rfl, n1, by omega, by omega, hp4, rfl⟩
def bookS : FS := { α := List PyData × Int × Int × Int, args := fun a => [.r a.1, .v (.int a.2.1), .v (.int a.2.2.1), .v (.int a.2.2.2)], pre := fun a => TubOk a.1 ∧ 1 ≤ a.2.1 ∧ a.2.1 ≤ 6 ∧ 1 ≤ a.2.2.1 ∧ a.2.2.1 ≤ 40 ∧ 1 ≤ a.2.2.2 ∧ a.2.2.2 ≤ 7, post := fun a r us' => ∃ (cs : List (Int × Int)) (w : List Int) (p : List PyData), r = .v (bkD cs w) ∧ ChOk cs ∧ WkOk w ∧ TubOk p ∧ us' = [.r p, .v (.int a.2.1), .v (.int a.2.2.1), .v (.int a.2.2.2)] }
theorem call_book {o : Option FS} {p : List PyData} {c m d : Int} {Qx : EX → List U → Prop} {Q : U → List U → Prop} (ho : o = some bookS) (h : TubOk p) (h1 : 1 ≤ c) (h2 : c ≤ 6) (h3 : 1 ≤ m) (h4 : m ≤ 40) (h5 : 1 ≤ d) (h6 : d ≤ 7)
    (q : ∀ cs w p', ChOk cs → WkOk w → TubOk p' → Q (.v (bkD cs w)) [.r p', .v (.int c), .v (.int m), .v (.int d)]) : callP o [.r p, .v (.int c), .v (.int m), .v (.int d)] Qx Q :=
  callP_of bookS ho (p, c, m, d) rfl ⟨h, h1, h2, h3, h4, h5, h6⟩ (by rintro r us' ⟨cs, w, p', rfl, k1, k2, k3, rfl⟩; exact q cs w p' k1 k2 k3) fun _ _ h => h.elim
def in6 (d : PyData) : Prop := ∃ n, d = .int n ∧ 0 ≤ n ∧ n ≤ 6
theorem ints_of {ds : List PyData} (h : ∀ d ∈ ds, in6 d) : ∃ w : List Int, ds = w.map .int ∧ ∀ x ∈ w, 0 ≤ x ∧ x ≤ 6 := by
  induction ds with
  | nil => exact ⟨[], rfl, by simp⟩
  | cons d ds ih =>
    obtain ⟨n, rfl, n1, n2⟩ := h d List.mem_cons_self
    obtain ⟨w, rfl, hw⟩ := ih fun e he => h e (List.mem_cons_of_mem _ he)
    exact ⟨n :: w, rfl, fun x hx => by
      rcases List.mem_cons.mp hx with rfl | hx
      · exact ⟨n1, n2⟩
      · exact hw x hx⟩
theorem w_l_book (p : List PyData) (c m d : Int) (hp : TubOk p) (h1 : 1 ≤ c) (h2 : c ≤ 6) (h3 : 1 ≤ m) (h4 : m ≤ 40) (h5 : 1 ≤ d) (h6 : d ≤ 7) : wpF (gam [takeS, chS]) 60 b_l_book 10 [.r p, .v (.int c), .v (.int m), .v (.int d)]
    (fun r us' => ∃ (cs : List (Int × Int)) (w : List Int) (p : List PyData), r = .v (bkD cs w) ∧ ChOk cs ∧ WkOk w ∧ TubOk p ∧ us' = [.r p, .v (.int c), .v (.int m), .v (.int d)]) (fun _ _ => False) := by
  walk_at "gm"
  refine ckP_of ⟨by omega, by omega⟩ ?_
  walk_at "gw"
  refine forP_inv (fun i e => ∃ (p : List PyData) (cs : List (Int × Int)) (k a : Option U), e = [some (.r p), some (.v (.int c)), some (.v (.int m)), some (.v (.int d)), some (.o (rowsD cs)), k, a, none, none, none] ∧ TubOk p ∧ Fre k ∧ Fre a ∧ cs.length = i ∧ ∀ x ∈ cs, 1 ≤ x.1 ∧ x.1 ≤ x.2 ∧ x.2 ≤ 40) ⟨p, [], none, none, rfl, hp, .no, .no, rfl, by simp⟩ ?_ ?_
  · rintro i x e nx hx ⟨p, cs, k, a, rfl, hp, hk, ha, hl, hcs⟩ hn
    obtain ⟨hi, rfl⟩ := rng_get hx
    have add : ∀ (x : Int × Int), (1 ≤ x.1 ∧ x.1 ≤ x.2 ∧ x.2 ≤ 40) → (cs ++ [x]).length = i + 1 ∧ ∀ y ∈ cs ++ [x], 1 ≤ y.1 ∧ y.1 ≤ y.2 ∧ y.2 ≤ 40 := fun x hx => ⟨by simp [hl], fun y hy => by
      rcases List.mem_append.mp hy with hy | hy
      · exact hcs y hy
      · rw [List.mem_singleton.mp hy]; exact hx⟩
    have lim : (rowsD cs).length < LIM := by rw [len_rows]; unfold LIM; omega
    have snoc : ∀ x, rowsD (cs ++ [x]) = rowsD cs ++ [iiD x] := fun x => by simp [rowsD]
    have fin : ∀ (x : Int × Int) (q : List PyData) (v w : Option U), (1 ≤ x.1 ∧ x.1 ≤ x.2 ∧ x.2 ≤ 40) → TubOk q → Fre v → Fre w → nx [some (.r q), some (.v (.int c)), some (.v (.int m)), some (.v (.int d)), some (.o (rowsD cs ++ [iiD x])), v, w, none, none, none] := fun x q v w hx hq hv hw =>
      hn _ ⟨q, cs ++ [x], v, w, by rw [snoc], hq, hv, hw, (add x hx).1, (add x hx).2⟩
    walk_at "gm"
    refine brP_of (fun h => ?_) fun h => ?_
    · have h := of_decide_eq_true h
      walk_at "gm"
      refine call_take rfl hp (by decide) (by decide) fun k1 p1 k10 k11 hp1 => ?_
      walk_at "gm"
      refine brP_of (fun h2 => ?_) fun h2 => ?_
      · walk_at "gm"
        refine call_take rfl hp1 (by omega) (by omega) fun k2 p2 k20 k21 hp2 => ?_
        walk_at "gm"
        have hk2 : k2.toNat < cs.length := by omega
        refine optP_of (idx_list k20 (show (rowsD cs)[k2.toNat]? = some (iiD cs[k2.toNat]) by simp [rowsD, hk2])) ?_
        walk_at "gm"
        refine ckP_of lim ?_
        walk_at "gm"
        exact fin cs[k2.toNat] p2 _ _ (hcs _ (List.getElem_mem hk2)) hp2 (.v _) (.v _)
      · walk_at "gm"
        refine call_ch rfl hp1 h3 h4 fun x y p2 x1 x2 x3 hp2 => ?_
        walk_at "gm"
        refine ckP_of lim ?_
        walk_at "gm"
        exact fin (x, y) p2 _ _ ⟨x1, x2, by show y ≤ 40; omega⟩ hp2 (.v _) (.v _)
    · walk_at "gm"
      refine brP_f h ?_
      walk_at "gm"
      refine call_ch rfl hp h3 h4 fun x y p2 x1 x2 x3 hp2 => ?_
      walk_at "gm"
      refine ckP_of lim ?_
      walk_at "gm"
      exact fin (x, y) p2 _ _ ⟨x1, x2, by show y ≤ 40; omega⟩ hp2 (.v _) (.v _)
  · rintro e ⟨p, cs, k, a, rfl, hp, hk, ha, hl, hcs⟩
    rw [rngI_length] at hl
    have hC : ChOk cs := ⟨by rintro rfl; simp at hl; omega, by omega, hcs⟩
    walk_at "gm"
    refine call_take rfl hp (by decide) (by decide) fun k1 p1 k10 k11 hp1 => ?_
    walk_at "gm"
    refine call_take rfl hp1 (by omega) (by omega) fun k2 p2 k20 k21 hp2 => ?_
    walk_at "gm"
    refine ckP_of ⟨by omega, by omega⟩ ?_
    walk_at "gm"
    refine ckP_of ⟨⟨True.intro, True.intro⟩, by rw [rngI_length]; unfold LIM; omega⟩ ?_
    refine compP_gather in6 (fun e => ∃ p, e = [some (.r p), some (.v (.int c)), some (.v (.int m)), some (.v (.int d)), some (.o (rowsD cs)), k, a, some (.v (.int (1 + k1))), none, none] ∧ TubOk p) ⟨p2, rfl, hp2⟩ ?_ ?_
    · rintro i x e nx hx ⟨p, rfl, hp⟩ hn
      walk_at "gm"
      refine call_take rfl hp (by omega) (by omega) fun k3 p3 k30 k31 hp3 => ?_
      walk_at "gm"
      exact hn _ _ ⟨k3, rfl, k30, by omega⟩ ⟨p3, rfl, hp3⟩
    · rintro acc e hal hac ⟨p, rfl, hp⟩
      rw [rngI_length] at hal
      obtain ⟨w, rfl, hw⟩ := ints_of hac
      rw [List.length_map] at hal
      walk_at "gm"
      exact ⟨cs, w, p, rfl, hC, ⟨by rintro rfl; simp at hal; omega, by omega, hw⟩, hp, rfl⟩
theorem okT_int (i : Int) : okT (.int i) = true := by simp [okT]
theorem szD_int (i : Int) : szD (.int i) = 1 := by simp [szD]
theorem okT_ints (w : List Int) : okT (.tuple (w.map .int)) = true := by rw [okT_tup]; exact okTs_ints w
theorem szD_ints (w : List Int) : szD (.tuple (w.map .int)) = w.length + 1 := by simp [szD, szDs_ints]
theorem okT_ii (p : Int × Int) : okT (iiD p) = true := by simp [iiD, okT, okTs]
theorem szD_ii (p : Int × Int) : szD (iiD p) = 3 := by simp [iiD, szD, szDs]
theorem okT_rows (cs : List (Int × Int)) : okT (.tuple (rowsD cs)) = true := by
  rw [okT_tup]
  exact okTs_all fun d hd => by
    obtain ⟨a, b, rfl, _⟩ := row_mem hd
    exact okT_ii _
theorem szD_rows (cs : List (Int × Int)) : szD (.tuple (rowsD cs)) ≤ 3 * cs.length + 1 := by
  have : szDs (rowsD cs) ≤ (rowsD cs).length * 3 := szDs_all fun d hd => by
    obtain ⟨a, b, rfl, _⟩ := row_mem hd
    exact Nat.le_of_eq (szD_ii _)
  rw [len_rows] at this
  simp only [szD]
  omega
theorem okT_bk (cs : List (Int × Int)) (w : List Int) : okT (bkD cs w) = true := by
  have h1 := okT_rows cs
  have h2 := okT_ints w
  unfold bkD
  simp only [okT, okTs] at *
  rw [h1, h2]; rfl
theorem szD_bk (cs : List (Int × Int)) (w : List Int) : szD (bkD cs w) ≤ 3 * cs.length + w.length + 4 := by
  have h1 := szD_rows cs
  have h2 := szD_ints w
  unfold bkD
  simp only [szD, szDs] at *
  omega
theorem cut_some {α : Type} (xs : List α) (k : Nat) : cutL xs (some (k : Int)) none = xs.drop k := by
  unfold cutL
  rw [HT.sIx_none, show HT.sIx xs.length 0 (some (k : Int)) = min k xs.length from HT.sIx_nat xs.length 0 k]
  by_cases h : k ≤ xs.length
  · rw [Nat.min_eq_left h]
    exact List.take_of_length_le (by simp)
  · rw [Nat.min_eq_right (by omega), Nat.sub_self, List.take_zero, List.drop_of_length_le (by omega)]
def tubS : FS := { α := List Int, args := fun ns => [.s ns], pre := fun _ => True, post := fun ns r us' => ∃ p, r = .o p ∧ TubOk p ∧ us' = [.s ns] }
theorem call_tub {o : Option FS} {ns : List Int} {Qx : EX → List U → Prop} {Q : U → List U → Prop} (ho : o = some tubS) (q : ∀ p, TubOk p → Q (.o p) [.s ns]) : callP o [.s ns] Qx Q :=
  callP_of tubS ho ns rfl trivial (by rintro r us' ⟨p, rfl, k, rfl⟩; exact q p k) fun _ _ h => h.elim
def lawS : FS := { α := List Int, args := fun ns => [.s ns], pre := fun _ => True, post := fun _ r _ => r = .v (.bool true) }
end GL

set_option maxRecDepth 100000
set_option maxHeartbeats 0
namespace GL
open PySem PySem.Spec PyProof.Rows L2 GM
local macro_rules | `(tactic| walk_at "gw") => `(tactic| conv => whnf)
local macro_rules | `(tactic| walk_at "g1") => `(tactic| first | refine optP_of rfl ?_ | (apply envP_of; focus ((try simp only [GM.start, List.map, List.length, List.reduceReplicate, Nat.reduceAdd, Nat.reduceSub, List.cons_append, List.nil_append, GM.put, GM.wb, GM.putR, GM.updE, GM.putF, List.reverse_cons, List.reverse_nil]); exact rfl)) | (refine ckP_of ?_ ?_; exact True.intro) | (refine ckP_of ?_ ?_; exact rfl) | (refine ckP_of ?_ ?_; exact ⟨rfl, rfl⟩) | (refine ckP_of ?_ ?_; exact ⟨True.intro, True.intro⟩) | (refine ckP_of ?_ ?_; exact asg_fr (by assumption) rfl) | (refine ckP_of ?_ ?_; exact ⟨asg_fr (by assumption) rfl, True.intro⟩) | refine brP_t rfl ?_ | refine brP_f rfl ?_ | fail)
local macro_rules | `(tactic| walk_at "gm") => `(tactic| (walk_at "gw"; repeat' (walk_at "g1"; walk_at "gw")))
/-! standings -/
def stD (d : Int) (as : List Int) : PyData := .tuple [.int d, .tuple (as.map .int)]
def a0 (as : List Int) (c : Nat) : Int := (as[c]?).getD 0
def lo (cs : List (Int × Int)) (c : Nat) : Int := ((cs[c]?).getD (0, 0)).1
def hi (cs : List (Int × Int)) (c : Nat) : Int := ((cs[c]?).getD (0, 0)).2
def selL (n : Nat) (f : Nat → Bool) : List Int := ((List.range n).filter f).map fun (c : Nat) => (c : Int)
def dueF (cs : List (Int × Int)) (as : List Int) (c : Nat) : Bool := decide (a0 as c = hi cs c)
def rdyF (cs : List (Int × Int)) (as : List Int) (c : Nat) : Bool := decide (lo cs c ≤ a0 as c)
def dueL (cs : List (Int × Int)) (as : List Int) : List Int := selL cs.length (dueF cs as)
def rdyL (cs : List (Int × Int)) (as : List Int) : List Int := selL cs.length (rdyF cs as)
structure StOk (cs : List (Int × Int)) (w : List Int) (d : Int) (as : List Int) : Prop where
  d0 : 0 ≤ d
  d1 : d < w.length
  len : as.length = cs.length
theorem ixa {as : List Int} {i : Nat} (h : i < as.length) : idxD (.tuple (as.map .int)) (.int (i : Int)) = some (.int (a0 as i)) := by
  refine idx_tup (by omega) ?_
  simp [a0, h]
theorem ixc {cs : List (Int × Int)} {i : Nat} (h : i < cs.length) : idxD (.tuple (rowsD cs)) (.int (i : Int)) = some (.tuple [.int (lo cs i), .int (hi cs i)]) := by
  refine idx_tup (by omega) ?_
  simp [lo, hi, rowsD, iiD, h]
theorem cs_at {cs : List (Int × Int)} {i : Nat} {y : PyData} (h : (rowsD cs)[i]? = some y) : i < cs.length ∧ y = .tuple [.int (lo cs i), .int (hi cs i)] := by
  obtain ⟨c, hc, rfl⟩ := map_at h
  refine ⟨(List.getElem?_eq_some_iff.mp hc).1, ?_⟩
  simp [lo, hi, iiD, hc]
theorem zip_get {xs : List PyData} {i : Nat} {z : PyData} (h : (xs.zipIdx.map D_pair)[i]? = some z) : ∃ x, xs[i]? = some x ∧ z = .tuple [.int i, x] := by
  rw [List.getElem?_map] at h
  cases q : xs.zipIdx[i]? with
  | none => rw [q] at h; simp at h
  | some p =>
    rw [q] at h
    rw [List.getElem?_zipIdx] at q
    cases g : xs[i]? with
    | none => rw [g] at q; simp at q
    | some x =>
      rw [g] at q
      refine ⟨x, rfl, ?_⟩
      simp at q h
      subst q
      simpa [D_pair] using h.symm
theorem zip_mem {xs : List PyData} {z : PyData} (h : z ∈ xs.zipIdx.map D_pair) : ∃ i x, xs[i]? = some x ∧ z = .tuple [.int (i : Nat), x] := by
  obtain ⟨i, hi⟩ := List.getElem?_of_mem h
  obtain ⟨x, h1, h2⟩ := zip_get hi
  exact ⟨i, x, h1, h2⟩
def fstI : PyData → PyData
  | .tuple [i, _] => i
  | d => d
theorem zip_eq (ys : List PyData) : ys.zipIdx.map D_pair = (List.range ys.length).map fun (c : Nat) => PyData.tuple [.int c, (ys[c]?).getD .none] := by
  apply List.ext_getElem?
  intro i
  rw [List.getElem?_map, List.getElem?_zipIdx, List.getElem?_map]
  by_cases h : i < ys.length
  · rw [List.getElem?_range h, List.getElem?_eq_getElem h]
    simp [D_pair, h]
  · rw [List.getElem?_eq_none (by omega : ys.length ≤ i), List.getElem?_eq_none (by simp; omega)]; rfl
theorem sel_zip {ys : List PyData} {P : PyData → Bool} {f : Nat → Bool} (h : ∀ i y, ys[i]? = some y → P (.tuple [.int (i : Nat), y]) = f i) : (((ys.zipIdx.map D_pair).filter P).map fstI) = (selL ys.length f).map .int := by
  rw [zip_eq, List.filter_map, List.map_map]
  unfold selL
  rw [List.map_map]
  have e : (List.range ys.length).filter (P ∘ fun (c : Nat) => PyData.tuple [.int c, (ys[c]?).getD .none]) = (List.range ys.length).filter f := List.filter_congr fun c hc => by
    have hc := List.mem_range.mp hc
    have := h c ys[c] (List.getElem?_eq_getElem hc)
    simp only [Function.comp, List.getElem?_eq_getElem hc, Option.getD_some]
    exact this
  rw [e]; rfl
theorem rng_map (n : Nat) : rngI 0 n = (List.range n).map fun (c : Nat) => PyData.int (c : Int) := by
  unfold rngI
  refine List.map_congr_left fun c _ => ?_
  rw [Int.zero_add]
theorem sel_rng {n : Nat} {P : PyData → Bool} {f : Nat → Bool} (h : ∀ i : Nat, i < n → P (.int (i : Int)) = f i) : ((rngI 0 n).filter P).map id = (selL n f).map .int := by
  rw [List.map_id, rng_map, List.filter_map]
  unfold selL
  rw [List.map_map]
  have e : (List.range n).filter (P ∘ fun (c : Nat) => PyData.int (c : Int)) = (List.range n).filter f := List.filter_congr fun c hc => h c (List.mem_range.mp hc)
  rw [e]; rfl
theorem sel_mem {n : Nat} {f : Nat → Bool} {x : Int} : x ∈ selL n f ↔ 0 ≤ x ∧ x < n ∧ f x.toNat = true := by
  unfold selL
  rw [List.mem_map]
  constructor
  · rintro ⟨c, hc, rfl⟩
    obtain ⟨h1, h2⟩ := List.mem_filter.mp hc
    have := List.mem_range.mp h1
    exact ⟨by omega, by omega, by simpa using h2⟩
  · rintro ⟨h1, h2, h3⟩
    exact ⟨x.toNat, List.mem_filter.mpr ⟨List.mem_range.mpr (by omega), h3⟩, by omega⟩
theorem sel_len (n : Nat) (f : Nat → Bool) : (selL n f).length ≤ n := by
  unfold selL
  rw [List.length_map]
  have := List.length_filter_le f (List.range n)
  rw [List.length_range] at this
  exact this
/-! small defs -/
theorem w_fresh_standing (cs : List (Int × Int)) (w : List Int) (hc : ChOk cs) : wpF (gam []) 60 b_fresh_standing 2 [.v (bkD cs w)] (fun r us' => r = .v (stD 0 (cs.map fun _ => 1)) ∧ us' = [.v (bkD cs w)]) (fun _ _ => False) := by
  walk_at "gm"
  refine ckP_of ⟨⟨True.intro, True.intro⟩, by rw [len_rows]; have := hc.le; unfold LIM; omega⟩ ?_
  refine compP_map (fun _ => .int 1) (fun x hx nx hn => ?_) ?_
  · walk_at "gm"
    exact hn
  walk_at "gm"
  refine ⟨?_, rfl⟩
  rw [show (rowsD cs).map (fun _ => PyData.int 1) = (cs.map fun _ => (1 : Int)).map .int by simp [rowsD, Function.comp_def]]
  rfl
def dueP (cs : List (Int × Int)) (as : List Int) : PyData → Bool
  | .tuple [.int i, _] => dueF cs as i.toNat
  | _ => false
def rdyP (cs : List (Int × Int)) (as : List Int) : PyData → Bool
  | .tuple [.int i, _] => rdyF cs as i.toNat
  | _ => false
theorem w_due_chores (cs : List (Int × Int)) (w : List Int) (d : Int) (as : List Int) (hc : ChOk cs) (hs : StOk cs w d as) : wpF (gam []) 60 b_due_chores 5 [.v (bkD cs w), .v (stD d as)] (fun r us' => r = .v (.tuple ((dueL cs as).map .int)) ∧ us' = [.v (bkD cs w), .v (stD d as)]) (fun _ _ => False) := by
  walk_at "gm"
  refine ckP_of ⟨⟨True.intro, True.intro, True.intro⟩, by rw [List.length_map, List.length_zipIdx, len_rows]; have := hc.le; unfold LIM; omega⟩ ?_
  refine compP_filter (dueP cs as) fstI (fun x hx nx hn => ?_) ?_
  · obtain ⟨i, y, hy, rfl⟩ := zip_mem hx
    obtain ⟨hi, rfl⟩ := cs_at hy
    walk_at "gm"
    refine optP_of (ixa (by rw [hs.len]; exact hi)) ?_
    walk_at "gm"
    have e : dueP cs as (.tuple [.int (i : Int), .tuple [.int (lo cs i), .int (GL.hi cs i)]]) = decide (a0 as i = GL.hi cs i) := rfl
    rw [e] at hn
    refine brP_of (fun h => ?_) fun h => ?_
    · rw [eqv_int] at h
      rw [if_pos h] at hn
      walk_at "gm"
      exact hn
    · rw [eqv_int] at h
      rw [if_neg (by rw [h]; exact Bool.false_ne_true)] at hn
      walk_at "gm"
      exact hn
  walk_at "gm"
  rw [sel_zip (f := dueF cs as) fun i y _ => rfl, len_rows]
  exact ⟨rfl, rfl⟩
theorem w_ready_chores (cs : List (Int × Int)) (w : List Int) (d : Int) (as : List Int) (hc : ChOk cs) (hs : StOk cs w d as) : wpF (gam []) 60 b_ready_chores 5 [.v (bkD cs w), .v (stD d as)] (fun r us' => r = .v (.tuple ((rdyL cs as).map .int)) ∧ us' = [.v (bkD cs w), .v (stD d as)]) (fun _ _ => False) := by
  walk_at "gm"
  refine ckP_of ⟨⟨True.intro, True.intro, True.intro⟩, by rw [List.length_map, List.length_zipIdx, len_rows]; have := hc.le; unfold LIM; omega⟩ ?_
  refine compP_filter (rdyP cs as) fstI (fun x hx nx hn => ?_) ?_
  · obtain ⟨i, y, hy, rfl⟩ := zip_mem hx
    obtain ⟨hi, rfl⟩ := cs_at hy
    walk_at "gm"
    refine optP_of (ixa (by rw [hs.len]; exact hi)) ?_
    walk_at "gm"
    have e : rdyP cs as (.tuple [.int (i : Int), .tuple [.int (lo cs i), .int (GL.hi cs i)]]) = leB (lo cs i) (a0 as i) := rfl
    rw [e] at hn
    refine brP_of (fun h => ?_) fun h => ?_
    · rw [if_pos h] at hn
      walk_at "gm"
      exact hn
    · rw [if_neg (by rw [h]; exact Bool.false_ne_true)] at hn
      walk_at "gm"
      exact hn
  walk_at "gm"
  rw [sel_zip (f := rdyF cs as) fun i y _ => rfl, len_rows]
  exact ⟨rfl, rfl⟩
def slk (cs : List (Int × Int)) (as : List Int) : List Int := (List.range cs.length).map fun c => hi cs c - a0 as c
def subF : PyData → PyData
  | .tuple [.tuple [_, .int h], .int a] => .int (h - a)
  | d => d
theorem bi_minL (ns : List Int) : biD .min1 [.list (ns.map .int)] = some (.v (.int (minI ns))) := by simp [biD, seqD, ints_some]
theorem zip2 {cs : List (Int × Int)} {as : List Int} (h : as.length = cs.length) : ((rowsD cs).zip (as.map .int)).map (fun p => PyData.tuple [p.1, p.2]) = (List.range cs.length).map fun (c : Nat) => PyData.tuple [.tuple [.int (lo cs c), .int (hi cs c)], .int (a0 as c)] := by
  apply List.ext_getElem?
  intro i
  rw [List.getElem?_map, List.getElem?_map]
  by_cases hl : i < cs.length
  · have e1 : ((rowsD cs).zip (as.map PyData.int))[i]? = some (.tuple [.int (lo cs i), .int (hi cs i)], .int (a0 as i)) := by
      rw [List.getElem?_zip_eq_some]
      constructor
      · simp [rowsD, lo, hi, iiD, hl]
      · simp [a0, show i < as.length by omega]
    rw [e1, List.getElem?_range hl]; rfl
  · rw [List.getElem?_eq_none (by simp [rowsD]; omega), List.getElem?_eq_none (by simp; omega)]; rfl
theorem w_slack_of (cs : List (Int × Int)) (w : List Int) (d : Int) (as : List Int) (hc : ChOk cs) (hs : StOk cs w d as) : wpF (gam []) 60 b_slack_of 4 [.v (bkD cs w), .v (stD d as)] (fun r us' => r = .v (.int (minI (slk cs as))) ∧ us' = [.v (bkD cs w), .v (stD d as)]) (fun _ _ => False) := by
  walk_at "gm"
  rw [zip2 hs.len]
  refine ckP_of ⟨⟨True.intro, True.intro, True.intro⟩, by rw [List.length_map, List.length_range]; have := hc.le; unfold LIM; omega⟩ ?_
  refine compP_map subF (fun x hx nx hn => ?_) ?_
  · obtain ⟨c, hc, rfl⟩ := List.mem_map.mp hx
    walk_at "gm"
    exact hn
  have e : ((List.range cs.length).map fun (c : Nat) => PyData.tuple [.tuple [.int (lo cs c), .int (hi cs c)], .int (a0 as c)]).map subF = (slk cs as).map .int := by
    unfold slk
    rw [List.map_map, List.map_map]; rfl
  rw [e]
  walk_at "gm"
  refine optP_of (bi_minL _) ?_
  refine ckP_of ?_ ?_
  · show 0 < ((slk cs as).map PyData.int).length
    have := List.length_pos_iff.mpr hc.ne
    simp [slk]; omega
  walk_at "gm"
  exact ⟨rfl, rfl⟩
/-! the ages behind a lot -/
def memB (L : List Int) (x : Int) : Bool := L.any fun y => decide (y = x)
theorem mem_any (L : List Int) (x : Int) : ((L.map PyData.int).any fun y => y.eqv (.int x)) = memB L x := by
  unfold memB
  rw [List.any_map]
  congr 1
theorem memB_iff {L : List Int} {x : Int} : memB L x = true ↔ x ∈ L := by
  unfold memB
  rw [List.any_eq_true]
  constructor
  · rintro ⟨y, hy, e⟩; rw [← of_decide_eq_true e]; exact hy
  · intro h; exact ⟨x, h, by simp⟩
theorem shp_ints (ns : List Int) : shapedP (.tuple (ns.map .int)) := by
  unfold shapedP SeqAt.shaped
  have h1 : PyData.canLay0 (.tuple (ns.map .int)) = true := by
    simp only [PyData.canLay0]
    induction ns with
    | nil => rfl
    | cons n ns ih => simp [PyData.canLayAll0, PyData.canLay0, ih]
  have h2 : (PyData.tuple (ns.map PyData.int)).depth ≤ 1 := PySem.W.depth_rows ns
  rw [h1, Bool.true_and, decide_eq_true_eq]
  omega
def nxA (as : List Int) (L : List Int) : List Int := (List.range as.length).map fun (c : Nat) => if memB L (c : Int) = true then 1 else a0 as c + 1
def nxF (L : List Int) : PyData → PyData
  | .tuple [.int i, .int a] => if memB L i = true then .int 1 else .int (a + 1)
  | d => d
theorem as_at {as : List Int} {i : Nat} {y : PyData} (h : (as.map PyData.int)[i]? = some y) : i < as.length ∧ y = .int (a0 as i) := by
  obtain ⟨c, hc, rfl⟩ := map_at h
  exact ⟨(List.getElem?_eq_some_iff.mp hc).1, by simp [a0, hc]⟩
theorem w_aged (as L : List Int) (hl : as.length ≤ 6) : wpF (gam []) 60 b_aged 4 [.v (.tuple (as.map .int)), .v (.tuple (L.map .int))] (fun r us' => r = .v (.tuple ((nxA as L).map .int)) ∧ us' = [.v (.tuple (as.map .int)), .v (.tuple (L.map .int))]) (fun _ _ => False) := by
  walk_at "gm"
  refine ckP_of ⟨⟨True.intro, True.intro, True.intro⟩, by rw [List.length_map, List.length_zipIdx, len_int]; unfold LIM; omega⟩ ?_
  refine compP_map (nxF L) (fun x hx nx hn => ?_) ?_
  · obtain ⟨i, y, hy, rfl⟩ := zip_mem hx
    obtain ⟨hi, rfl⟩ := as_at hy
    walk_at "gm"
    refine ckP_of ⟨rfl, shp_ints _⟩ ?_
    walk_at "gm"
    rw [mem_any]
    have e : nxF L (.tuple [.int (i : Int), .int (a0 as i)]) = if memB L (i : Int) = true then .int 1 else .int (a0 as i + 1) := rfl
    rw [e] at hn
    refine brP_of (fun h => ?_) fun h => ?_
    · rw [if_pos h] at hn
      walk_at "gm"
      exact hn
    · rw [if_neg (by rw [h]; exact Bool.false_ne_true)] at hn
      walk_at "gm"
      exact hn
  walk_at "gm"
  refine ⟨?_, rfl⟩
  have e : ((as.map PyData.int).zipIdx.map D_pair).map (nxF L) = (nxA as L).map .int := by
    rw [zip_eq, List.map_map, List.length_map]
    unfold nxA
    rw [List.map_map]
    refine List.map_congr_left fun c hc => ?_
    have hc := List.mem_range.mp hc
    have e : ((as.map PyData.int)[c]?).getD .none = .int (a0 as c) := by simp [a0, hc]
    simp only [Function.comp, e]
    show (if memB L (c : Int) = true then PyData.int 1 else .int (a0 as c + 1)) = _
    split <;> rfl
  rw [e]
def nxD (d : Int) (w : List Int) (as L : List Int) : PyData := stD ((d + 1) % (w.length : Int)) (nxA as L)
def agS : FS := valS (fun p : List Int × List Int => [.v (.tuple (p.1.map .int)), .v (.tuple (p.2.map .int))]) (fun p => p.1.length ≤ 6) (fun p => .tuple ((nxA p.1 p.2).map .int))
theorem w_next_standing (cs : List (Int × Int)) (w : List Int) (d : Int) (as L : List Int) (hc : ChOk cs) (hw : WkOk w) (hs : StOk cs w d as) : wpF (gam [agS]) 60 b_next_standing 5 [.v (bkD cs w), .v (stD d as), .v (.tuple (L.map .int))] (fun r us' => r = .v (nxD d w as L) ∧ us' = [.v (bkD cs w), .v (stD d as), .v (.tuple (L.map .int))]) (fun _ _ => False) := by
  have hl := List.length_pos_iff.mpr hw.ne
  have h6 : as.length ≤ 6 := by rw [hs.len]; exact hc.le
  walk_at "gm"
  refine ckP_of (by show (0 : Int) < ((w.map PyData.int).length : Int); rw [List.length_map]; omega) ?_
  walk_at "gm"
  refine call_val (args := fun p : List Int × List Int => [.v (.tuple (p.1.map .int)), .v (.tuple (p.2.map .int))]) rfl (as, L) rfl h6 ?_
  walk_at "gm"
  rw [List.length_map]
  exact ⟨rfl, rfl⟩
def nxG (as L : List Int) : PyData → PyData
  | .int i => if memB L i = true then .int 1 else .int (a0 as i.toNat + 1)
  | d => d
theorem w_l_next (cs : List (Int × Int)) (w : List Int) (d : Int) (as L : List Int) (hc : ChOk cs) (hw : WkOk w) (hs : StOk cs w d as) : wpF (gam []) 60 b_l_next 6 [.v (bkD cs w), .v (stD d as), .v (.tuple (L.map .int))] (fun r us' => r = .v (nxD d w as L) ∧ us' = [.v (bkD cs w), .v (stD d as), .v (.tuple (L.map .int))]) (fun _ _ => False) := by
  have hl := List.length_pos_iff.mpr hw.ne
  have h6 : as.length ≤ 6 := by rw [hs.len]; exact hc.le
  walk_at "gm"
  refine ckP_of (by show (0 : Int) < ((w.map PyData.int).length : Int); rw [List.length_map]; omega) ?_
  walk_at "gm"
  refine ckP_of ⟨by show -(2 ^ 62) ≤ ((as.map PyData.int).length : Int); rw [List.length_map]; omega, by show ((as.map PyData.int).length : Int) < 2 ^ 62; rw [List.length_map]; omega⟩ ?_
  walk_at "gm"
  rw [List.length_map, Int.toNat_natCast]
  refine ckP_of ⟨⟨True.intro, True.intro⟩, by rw [rngI_length]; unfold LIM; omega⟩ ?_
  refine compP_map (nxG as L) (fun x hx nx hn => ?_) ?_
  · obtain ⟨i, hx⟩ := List.getElem?_of_mem hx
    obtain ⟨hi2, rfl⟩ := rng_get hx
    rw [Int.zero_add] at hn ⊢
    walk_at "gm"
    refine ckP_of ⟨rfl, shp_ints _⟩ ?_
    walk_at "gm"
    rw [mem_any]
    have e : nxG as L (.int (i : Int)) = if memB L (i : Int) = true then .int 1 else .int (a0 as i + 1) := rfl
    rw [e] at hn
    refine brP_of (fun h => ?_) fun h => ?_
    · rw [if_pos h] at hn
      walk_at "gm"
      exact hn
    · rw [if_neg (by rw [h]; exact Bool.false_ne_true)] at hn
      walk_at "gm"
      refine optP_of (ixa hi2) ?_
      walk_at "gm"
      exact hn
  walk_at "gm"
  refine ⟨?_, rfl⟩
  have e : (rngI 0 as.length).map (nxG as L) = (nxA as L).map .int := by
    rw [rng_map, List.map_map]
    unfold nxA
    rw [List.map_map]
    refine List.map_congr_left fun c hc => ?_
    show (if memB L (c : Int) = true then PyData.int 1 else .int (a0 as c + 1)) = _
    simp only [Function.comp]
    split <;> rfl
  rw [e, List.length_map]
  rfl
end GL

set_option maxRecDepth 100000
set_option maxHeartbeats 0
namespace GL
open PySem PySem.Spec PyProof.Rows L2 GM
local macro_rules | `(tactic| walk_at "gw") => `(tactic| conv => whnf)
local macro_rules | `(tactic| walk_at "g1") => `(tactic| first | refine optP_of rfl ?_ | (apply envP_of; focus ((try simp only [GM.start, List.map, List.length, List.reduceReplicate, Nat.reduceAdd, Nat.reduceSub, List.cons_append, List.nil_append, GM.put, GM.wb, GM.putR, GM.updE, GM.putF, List.reverse_cons, List.reverse_nil]); exact rfl)) | (refine ckP_of ?_ ?_; exact True.intro) | (refine ckP_of ?_ ?_; exact rfl) | (refine ckP_of ?_ ?_; exact ⟨rfl, rfl⟩) | (refine ckP_of ?_ ?_; exact ⟨True.intro, True.intro⟩) | (refine ckP_of ?_ ?_; exact asg_fr (by assumption) rfl) | (refine ckP_of ?_ ?_; exact ⟨asg_fr (by assumption) rfl, True.intro⟩) | refine brP_t rfl ?_ | refine brP_f rfl ?_ | fail)
local macro_rules | `(tactic| walk_at "gm") => `(tactic| (walk_at "gw"; repeat' (walk_at "g1"; walk_at "gw")))
/-! what is let -/
def inN (n : Nat) (L : List Int) : Prop := ∀ x ∈ L, 0 ≤ x ∧ x < n
def letB (cs : List (Int × Int)) (w : List Int) (d : Int) (as L : List Int) : Bool :=
  decide ((L.length : Int) ≤ wAt w d) && L.all (fun x => rdyF cs as x.toNat) && (dueL cs as).all fun x => memB L x
def letS : FS := valS (fun p : (List (Int × Int) × List Int) × Int × List Int × List Int => [.v (bkD p.1.1 p.1.2), .v (stD p.2.1 p.2.2.1), .v (tupI p.2.2.2)])
  (fun p => ChOk p.1.1 ∧ WkOk p.1.2 ∧ StOk p.1.1 p.1.2 p.2.1 p.2.2.1 ∧ inN p.1.1.length p.2.2.2 ∧ p.2.2.2.length ≤ 6) (fun p => .bool (letB p.1.1 p.1.2 p.2.1 p.2.2.1 p.2.2.2))
def dueS : FS := valS (fun p : (List (Int × Int) × List Int) × Int × List Int => [.v (bkD p.1.1 p.1.2), .v (stD p.2.1 p.2.2)]) (fun p => ChOk p.1.1 ∧ StOk p.1.1 p.1.2 p.2.1 p.2.2) (fun p => .tuple ((dueL p.1.1 p.2.2).map .int))
def rdyS : FS := valS (fun p : (List (Int × Int) × List Int) × Int × List Int => [.v (bkD p.1.1 p.1.2), .v (stD p.2.1 p.2.2)]) (fun p => ChOk p.1.1 ∧ StOk p.1.1 p.1.2 p.2.1 p.2.2) (fun p => .tuple ((rdyL p.1.1 p.2.2).map .int))
theorem call_due {o : Option FS} {cs : List (Int × Int)} {w as : List Int} {d : Int} {Qx : EX → List U → Prop} {Q : U → List U → Prop} (ho : o = some dueS) (hc : ChOk cs) (hs : StOk cs w d as) (q : Q (.v (.tuple ((dueL cs as).map .int))) [.v (bkD cs w), .v (stD d as)]) : callP o [.v (bkD cs w), .v (stD d as)] Qx Q :=
  call_val ho ((cs, w), d, as) rfl ⟨hc, hs⟩ q
theorem call_rdy {o : Option FS} {cs : List (Int × Int)} {w as : List Int} {d : Int} {Qx : EX → List U → Prop} {Q : U → List U → Prop} (ho : o = some rdyS) (hc : ChOk cs) (hs : StOk cs w d as) (q : Q (.v (.tuple ((rdyL cs as).map .int))) [.v (bkD cs w), .v (stD d as)]) : callP o [.v (bkD cs w), .v (stD d as)] Qx Q :=
  call_val ho ((cs, w), d, as) rfl ⟨hc, hs⟩ q
def nin (L : List Int) : PyData → Bool
  | .int x => !memB L x
  | _ => false
theorem pos_any (xs : List PyData) (p : PyData → Bool) : ltB 0 (((xs.filter p).map (id : PyData → PyData)).length : Int) = xs.any p := by
  rw [List.map_id]
  cases h : xs.any p with
  | true =>
    obtain ⟨x, hx, hp⟩ := List.any_eq_true.mp h
    have : 0 < (xs.filter p).length := List.length_pos_iff.mpr fun z => by
      have := List.mem_filter.mpr ⟨hx, hp⟩
      rw [z] at this; cases this
    show decide _ = true
    rw [decide_eq_true_eq]; omega
  | false =>
    have : xs.filter p = [] := List.filter_eq_nil_iff.mpr fun x hx => by
      have := List.any_eq_false.mp h x hx
      exact this
    rw [this]; rfl
theorem zero_any (xs : List PyData) (p : PyData → Bool) : PyData.eqv (.int (((xs.filter p).map (id : PyData → PyData)).length : Int)) (.int 0) = !xs.any p := by
  rw [eqv_int, ← pos_any xs p]
  show decide _ = !decide _
  generalize (((xs.filter p).map (id : PyData → PyData)).length) = n
  by_cases h : n = 0
  · subst h; rfl
  · rw [decide_eq_false (by omega), decide_eq_true (by omega)]; rfl
theorem wk_ix {w : List Int} {d : Int} (h0 : 0 ≤ d) (h1 : d < w.length) : idxD (.tuple (w.map .int)) (.int d) = some (.int (wAt w d)) := ixw h0 h1
theorem any_nin (L M : List Int) : (L.map PyData.int).any (nin M) = !L.all (fun x => memB M x) := by
  induction L with
  | nil => rfl
  | cons x L ih => simp only [List.map_cons, List.any_cons, List.all_cons, ih]; show (!memB M x || _) = _; cases memB M x <;> simp
theorem rdy_all {cs : List (Int × Int)} {as L : List Int} (h : inN cs.length L) : L.all (fun x => memB (rdyL cs as) x) = L.all (fun x => rdyF cs as x.toNat) := by
  have : ∀ x ∈ L, memB (rdyL cs as) x = rdyF cs as x.toNat := fun x hx => by
    obtain ⟨h0, h1⟩ := h x hx
    cases q : rdyF cs as x.toNat with
    | true => exact memB_iff.mpr (sel_mem.mpr ⟨h0, h1, q⟩)
    | false =>
      cases q2 : memB (rdyL cs as) x with
      | false => rfl
      | true => rw [(sel_mem.mp (memB_iff.mp q2)).2.2] at q; cases q
  induction L with
  | nil => rfl
  | cons x L ih => rw [List.all_cons, List.all_cons, this x List.mem_cons_self, ih (fun y hy => h y (List.mem_cons_of_mem _ hy)) fun y hy => this y (List.mem_cons_of_mem _ hy)]
theorem w_is_let (cs : List (Int × Int)) (w : List Int) (d : Int) (as L : List Int) (hc : ChOk cs) (hw : WkOk w) (hs : StOk cs w d as) (hL : inN cs.length L) (h6 : L.length ≤ 6) : wpF (gam [rdyS, dueS]) 60 b_is_let 5 [.v (bkD cs w), .v (stD d as), .v (tupI L)] (fun r us' => r = .v (.bool (letB cs w d as L)) ∧ us' = [.v (bkD cs w), .v (stD d as), .v (tupI L)]) (fun _ _ => False) := by
  unfold tupI
  walk_at "gm"
  refine optP_of (wk_ix hs.d0 hs.d1) ?_
  walk_at "gm"
  rw [List.length_map]
  unfold letB
  refine brP_of (fun h => ?_) fun h => ?_
  · walk_at "gm"
    have h : wAt w d < (L.length : Int) := of_decide_eq_true h
    rw [decide_eq_false (by omega)]
    exact ⟨rfl, rfl⟩
  · have h : ¬ wAt w d < (L.length : Int) := of_decide_eq_false h
    rw [decide_eq_true (by omega : (L.length : Int) ≤ wAt w d), Bool.true_and]
    walk_at "gm"
    refine call_rdy rfl hc hs ?_
    walk_at "gm"
    refine ckP_of ⟨⟨True.intro, True.intro⟩, by rw [List.length_map]; unfold LIM; omega⟩ ?_
    refine compP_filter (nin (rdyL cs as)) id (fun x hx nx hn => ?_) ?_
    · obtain ⟨y, _, rfl⟩ := List.mem_map.mp hx
      walk_at "gm"
      refine ckP_of ⟨rfl, shp_ints _⟩ ?_
      walk_at "gm"
      rw [mem_any]
      have e : nin (rdyL cs as) (.int y) = !memB (rdyL cs as) y := rfl
      rw [e] at hn
      refine brP_of (fun h => ?_) fun h => ?_
      · rw [if_pos h] at hn
        walk_at "gm"
        exact hn
      · rw [if_neg (by rw [h]; exact Bool.false_ne_true)] at hn
        walk_at "gm"
        exact hn
    walk_at "gm"
    rw [pos_any, any_nin, rdy_all hL]
    refine brP_of (fun h => ?_) fun h => ?_
    · walk_at "gm"
      rw [Bool.not_eq_true'] at h
      rw [h]
      exact ⟨rfl, rfl⟩
    · rw [Bool.not_eq_false'] at h
      rw [h, Bool.true_and]
      walk_at "gm"
      refine call_due rfl hc hs ?_
      walk_at "gm"
      refine ckP_of ⟨⟨True.intro, True.intro⟩, by rw [List.length_map]; have := sel_len cs.length (dueF cs as); have := hc.le; unfold LIM; show (dueL cs as).length ≤ _; unfold dueL; omega⟩ ?_
      refine compP_filter (nin L) id (fun x hx nx hn => ?_) ?_
      · obtain ⟨y, _, rfl⟩ := List.mem_map.mp hx
        walk_at "gm"
        refine ckP_of ⟨rfl, shp_ints _⟩ ?_
        walk_at "gm"
        rw [mem_any]
        have e : nin L (.int y) = !memB L y := rfl
        rw [e] at hn
        refine brP_of (fun h => ?_) fun h => ?_
        · rw [if_pos h] at hn
          walk_at "gm"
          exact hn
        · rw [if_neg (by rw [h]; exact Bool.false_ne_true)] at hn
          walk_at "gm"
          exact hn
      walk_at "gm"
      rw [zero_any, any_nin, Bool.not_not]
      exact ⟨rfl, rfl⟩
/-! the law's own -/
def notRdy (cs : List (Int × Int)) (as : List Int) : PyData → Bool
  | .int x => !rdyF cs as x.toNat
  | _ => false
def dueNin (cs : List (Int × Int)) (as L : List Int) : PyData → Bool
  | .int x => dueF cs as x.toNat && !memB L x
  | _ => false
theorem any_notRdy (cs : List (Int × Int)) (as L : List Int) : (L.map PyData.int).any (notRdy cs as) = !L.all (fun x => rdyF cs as x.toNat) := by
  induction L with
  | nil => rfl
  | cons x L ih => simp only [List.map_cons, List.any_cons, List.all_cons, ih]; show (!rdyF cs as x.toNat || _) = _; cases rdyF cs as x.toNat <;> simp
theorem any_dueNin (cs : List (Int × Int)) (as L : List Int) : (rngI 0 cs.length).any (dueNin cs as L) = !(dueL cs as).all (fun x => memB L x) := by
  rw [rng_map]
  unfold dueL selL
  induction List.range cs.length with
  | nil => rfl
  | cons x R ih =>
    simp only [List.map_cons, List.any_cons, List.filter_cons, ih]
    show ((dueF cs as x && !memB L (x : Int)) || _) = _
    cases q : dueF cs as x with
    | true => simp only [if_true, List.map_cons, List.all_cons]; cases memB L (x : Int) <;> simp
    | false => simp
theorem w_l_is_let (cs : List (Int × Int)) (w : List Int) (d : Int) (as L : List Int) (hc : ChOk cs) (hw : WkOk w) (hs : StOk cs w d as) (hL : inN cs.length L) (h6 : L.length ≤ 6) : wpF (gam []) 60 b_l_is_let 6 [.v (bkD cs w), .v (stD d as), .v (tupI L)] (fun r us' => r = .v (.bool (letB cs w d as L)) ∧ us' = [.v (bkD cs w), .v (stD d as), .v (tupI L)]) (fun _ _ => False) := by
  have h61 := hc.le
  unfold tupI
  walk_at "gm"
  refine optP_of (wk_ix hs.d0 hs.d1) ?_
  walk_at "gm"
  rw [List.length_map]
  unfold letB
  refine brP_of (fun h => ?_) fun h => ?_
  · have h : wAt w d < (L.length : Int) := of_decide_eq_true h
    rw [decide_eq_false (by omega)]
    walk_at "gm"
    exact ⟨rfl, rfl⟩
  · have h : ¬ wAt w d < (L.length : Int) := of_decide_eq_false h
    rw [decide_eq_true (by omega : (L.length : Int) ≤ wAt w d), Bool.true_and]
    walk_at "gm"
    refine ckP_of ⟨⟨True.intro, True.intro⟩, by rw [List.length_map]; unfold LIM; omega⟩ ?_
    refine compP_filter (notRdy cs as) id (fun x hx nx hn => ?_) ?_
    · obtain ⟨y, hy, rfl⟩ := List.mem_map.mp hx
      obtain ⟨y0, y1⟩ := hL y hy
      obtain ⟨n, rfl⟩ := Int.eq_ofNat_of_zero_le y0
      have hn1 : n < cs.length := by omega
      walk_at "gm"
      refine optP_of (ixa (by rw [hs.len]; exact hn1)) ?_
      walk_at "gm"
      refine optP_of (ixc hn1) ?_
      walk_at "gm"
      have e : notRdy cs as (.int (n : Int)) = ltB (a0 as n) (lo cs n) := by
        show (!decide (lo cs n ≤ a0 as n)) = decide (a0 as n < lo cs n)
        by_cases z : a0 as n < lo cs n
        · rw [decide_eq_true z, decide_eq_false (by omega)]; rfl
        · rw [decide_eq_false z, decide_eq_true (by omega)]; rfl
      rw [e] at hn
      refine brP_of (fun h => ?_) fun h => ?_
      · rw [if_pos h] at hn
        walk_at "gm"
        exact hn
      · rw [if_neg (by rw [h]; exact Bool.false_ne_true)] at hn
        walk_at "gm"
        exact hn
    walk_at "gm"
    rw [pos_any, any_notRdy]
    refine brP_of (fun h => ?_) fun h => ?_
    · walk_at "gm"
      rw [Bool.not_eq_true'] at h
      rw [h]
      exact ⟨rfl, rfl⟩
    · rw [Bool.not_eq_false'] at h
      rw [h, Bool.true_and]
      walk_at "gm"
      refine ckP_of ⟨by show -(2 ^ 62) ≤ ((as.map PyData.int).length : Int); rw [List.length_map]; omega, by show ((as.map PyData.int).length : Int) < 2 ^ 62; rw [List.length_map, hs.len]; omega⟩ ?_
      walk_at "gm"
      rw [List.length_map, Int.toNat_natCast, hs.len]
      refine ckP_of ⟨⟨True.intro, True.intro⟩, by rw [rngI_length]; unfold LIM; omega⟩ ?_
      refine compP_filter (dueNin cs as L) id (fun x hx nx hn => ?_) ?_
      · obtain ⟨i, hx⟩ := List.getElem?_of_mem hx
        obtain ⟨hi2, rfl⟩ := rng_get hx
        rw [Int.zero_add] at hn ⊢
        walk_at "gm"
        refine optP_of (ixa (by rw [hs.len]; exact hi2)) ?_
        walk_at "gm"
        refine optP_of (ixc hi2) ?_
        walk_at "gm"
        have e : dueNin cs as L (.int (i : Int)) = (decide (a0 as i = GL.hi cs i) && !memB L (i : Int)) := rfl
        rw [e] at hn
        refine brP_of (fun h => ?_) fun h => ?_
        · rw [eqv_int] at h
          rw [h, Bool.true_and] at hn
          walk_at "gm"
          refine ckP_of ⟨rfl, shp_ints _⟩ ?_
          walk_at "gm"
          rw [mem_any]
          refine brP_of (fun h => ?_) fun h => ?_
          · rw [if_pos h] at hn
            walk_at "gm"
            exact hn
          · rw [if_neg (by rw [h]; exact Bool.false_ne_true)] at hn
            walk_at "gm"
            exact hn
        · rw [eqv_int] at h
          rw [h, Bool.false_and, if_neg Bool.false_ne_true] at hn
          walk_at "gm"
          exact hn
      walk_at "gm"
      rw [zero_any, any_dueNin, Bool.not_not]
      exact ⟨rfl, rfl⟩
end GL

set_option maxRecDepth 100000
set_option maxHeartbeats 0
namespace GL
open PySem PySem.Spec PyProof.Rows L2 GM
local macro_rules | `(tactic| walk_at "gw") => `(tactic| conv => whnf)
local macro_rules | `(tactic| walk_at "g1") => `(tactic| first | refine optP_of rfl ?_ | (apply envP_of; focus ((try simp only [GM.start, List.map, List.length, List.reduceReplicate, Nat.reduceAdd, Nat.reduceSub, List.cons_append, List.nil_append, GM.put, GM.wb, GM.putR, GM.updE, GM.putF, List.reverse_cons, List.reverse_nil]); exact rfl)) | (refine ckP_of ?_ ?_; exact True.intro) | (refine ckP_of ?_ ?_; exact rfl) | (refine ckP_of ?_ ?_; exact ⟨rfl, rfl⟩) | (refine ckP_of ?_ ?_; exact ⟨True.intro, True.intro⟩) | (refine ckP_of ?_ ?_; exact asg_fr (by assumption) rfl) | (refine ckP_of ?_ ?_; exact ⟨asg_fr (by assumption) rfl, True.intro⟩) | refine brP_t rfl ?_ | refine brP_f rfl ?_ | fail)
local macro_rules | `(tactic| walk_at "gm") => `(tactic| (walk_at "gw"; repeat' (walk_at "g1"; walk_at "gw")))
/-! lots -/
def addC (c : Int) (l : List Int) : List Int := sortI (l ++ [c])
def stepB (m : List Int) (h : Int) (found : List (List Int)) (c : Int) : List (List Int) :=
  if memB m c = true then found else found ++ (found.filter fun l => decide ((l.length : Int) < h)).map (addC c)
def foundB (m r : List Int) (h : Int) : List (List Int) := r.foldl (stepB m h) [m]
def lotsB (m r : List Int) (h : Int) : List (List Int) := if h < m.length then [] else sortT (foundB m r h)
theorem ints_app (l : List Int) (c : Int) : l.map PyData.int ++ [.int c] = (l ++ [c]).map PyData.int := by simp
theorem bi_sortT (l : List Int) : biD .sorted [.tuple (l.map .int)] = some (.o ((sortI l).map .int)) := by simp [biD, seqD, ints_some]
theorem tups_some : ∀ ts : List (List Int), tupsD (ts.map tupI) = some ts
  | [] => rfl
  | t :: ts => by
    show (match intsD (t.map .int) with | some n => (match tupsD (ts.map tupI) with | some ns => some (n :: ns) | none => none) | none => none) = _
    rw [ints_some, tups_some ts]
theorem bi_sortL {ts : List (List Int)} (h : ts ≠ []) : biD .sorted [.list (ts.map tupI)] = some (.o ((sortT ts).map tupI)) := by
  cases ts with
  | nil => exact absurd rfl h
  | cons t ts =>
    have e : intsD ((t :: ts).map tupI) = none := rfl
    simp only [biD, seqD, e, tups_some]
theorem step_len (m : List Int) (h : Int) (f : List (List Int)) (c : Int) : f.length ≤ (stepB m h f c).length ∧ (stepB m h f c).length ≤ 2 * f.length := by
  unfold stepB
  split
  · omega
  · rw [List.length_append, List.length_map]
    have := List.length_filter_le (fun l : List Int => decide ((l.length : Int) < h)) f
    omega
theorem found_len (m r : List Int) (h : Int) : 1 ≤ (foundB m r h).length ∧ (foundB m r h).length ≤ 2 ^ r.length := by
  have go : ∀ (r : List Int) (f : List (List Int)), f.length ≤ (r.foldl (stepB m h) f).length ∧ (r.foldl (stepB m h) f).length ≤ 2 ^ r.length * f.length := by
    intro r
    induction r with
    | nil => intro f; simp
    | cons c r ih =>
      intro f
      obtain ⟨h1, h2⟩ := ih (stepB m h f c)
      obtain ⟨h3, h4⟩ := step_len m h f c
      rw [List.foldl_cons, List.length_cons, Nat.pow_succ]
      refine ⟨by omega, Nat.le_trans h2 ?_⟩
      rw [Nat.mul_assoc]
      exact Nat.mul_le_mul_left _ h4
  have := go r [m]
  rw [List.length_singleton, Nat.mul_one] at this
  exact this
def ltL (h : Int) : PyData → Bool
  | .tuple xs => decide ((xs.length : Int) < h)
  | _ => false
def addD (c : Int) : PyData → PyData
  | .tuple xs => match intsD xs with
    | some l => tupI (addC c l)
    | none => .none
  | d => d
theorem add_tup (c : Int) (l : List Int) : addD c (tupI l) = tupI (addC c l) := by
  show (match intsD (l.map .int) with | some l => tupI (addC c l) | none => .none) = _
  rw [ints_some]
theorem lt_tup (h : Int) (l : List Int) : ltL h (tupI l) = decide ((l.length : Int) < h) := by
  show decide ((((l.map PyData.int).length : Nat) : Int) < h) = _
  rw [List.length_map]
theorem w_lots_between (m r : List Int) (h : Int) (hm : m.length ≤ 6) (hr : r.length ≤ 6) (hh : h ≤ 6) : wpF (gam []) 60 b_lots_between 6 [.v (tupI m), .v (tupI r), .v (.int h)] (fun u us' => u = .v (.tuple ((lotsB m r h).map tupI)) ∧ us' = [.v (tupI m), .v (tupI r), .v (.int h)]) (fun _ _ => False) := by
  show wpF (gam []) 60 b_lots_between 6 [.v (.tuple (m.map .int)), .v (.tuple (r.map .int)), .v (.int h)] (fun u us' => u = .v (.tuple ((lotsB m r h).map tupI)) ∧ us' = [.v (.tuple (m.map .int)), .v (.tuple (r.map .int)), .v (.int h)]) (fun _ _ => False)
  walk_at "gm"
  rw [List.length_map]
  unfold lotsB
  refine brP_of (fun hb => ?_) fun hb => ?_
  · rw [if_pos (of_decide_eq_true hb)]
    walk_at "gm"
    exact ⟨rfl, rfl⟩
  · rw [if_neg (of_decide_eq_false hb)]
    walk_at "gm"
    refine forP_inv (fun i e => ∃ v, e = [some (.v (.tuple (m.map .int))), some (.v (.tuple (r.map .int))), some (.v (.int h)), some (.o (((r.take i).foldl (stepB m h) [m]).map tupI)), v, none] ∧ Fre v) ⟨none, rfl, .no⟩ ?_ ?_
    · rintro i x e nx hx ⟨v, rfl, hv⟩ hn
      obtain ⟨c, hx0, rfl⟩ := map_at hx
      have hi : i < r.length := (List.getElem?_eq_some_iff.mp hx0).1
      rw [take_get hx0, List.foldl_append, List.foldl_cons, List.foldl_nil] at hn
      have fl := found_len m (r.take i) h
      have p6 : 2 ^ (r.take i).length ≤ 2 ^ 6 := Nat.pow_le_pow_right (by omega) (by rw [List.length_take]; omega)
      unfold foundB at fl
      generalize (r.take i).foldl (stepB m h) [m] = f at hn fl ⊢
      walk_at "gm"
      refine ckP_of ⟨rfl, shp_ints _⟩ ?_
      walk_at "gm"
      rw [mem_any]
      have es : stepB m h f c = if memB m c = true then f else f ++ (f.filter fun l => decide ((l.length : Int) < h)).map (addC c) := rfl
      rw [es] at hn
      refine brP_of (fun hb => ?_) fun hb => ?_
      · rw [Bool.not_eq_true'] at hb
        rw [if_neg (by rw [hb]; exact Bool.false_ne_true)] at hn
        walk_at "gm"
        refine ckP_of ⟨⟨True.intro, True.intro⟩, by rw [List.length_map]; unfold LIM; omega⟩ ?_
        refine compP_filter (ltL h) (addD c) (fun x hx nx hn => ?_) ?_
        · obtain ⟨l, hl, rfl⟩ := List.mem_map.mp hx
          have e1 : (tupI l) = .tuple (l.map .int) := rfl
          rw [lt_tup, add_tup] at hn
          rw [e1]
          walk_at "gm"
          rw [List.length_map]
          have e2 : ltB (l.length : Int) h = decide ((l.length : Int) < h) := rfl
          rw [e2]
          refine brP_of (fun hb => ?_) fun hb => ?_
          · rw [if_pos hb] at hn
            walk_at "gm"
            have hb := of_decide_eq_true hb
            refine ckP_of (by show (l.map PyData.int).length + 1 ≤ LIM; rw [List.length_map]; unfold LIM; omega) ?_
            walk_at "gm"
            rw [ints_app]
            refine optP_of (bi_sortT _) ?_
            walk_at "gm"
            exact hn
          · rw [if_neg (by rw [hb]; exact Bool.false_ne_true)] at hn
            walk_at "gm"
            exact hn
        have e3 : ((f.map tupI).filter (ltL h)).map (addD c) = ((f.filter fun l => decide ((l.length : Int) < h)).map (addC c)).map tupI := by
          rw [List.filter_map, List.map_map, List.map_map]
          have : (ltL h ∘ tupI) = fun l => decide ((l.length : Int) < h) := funext fun l => lt_tup h l
          rw [this]
          exact List.map_congr_left fun l _ => add_tup c l
        rw [e3]
        have fl2 := List.length_filter_le (fun l : List Int => decide ((l.length : Int) < h)) f
        walk_at "gm"
        refine ckP_of (by show (f.map tupI).length + (((f.filter fun l => decide ((l.length : Int) < h)).map (addC c)).map tupI).length ≤ LIM; rw [List.length_map, List.length_map, List.length_map]; unfold LIM; omega) ?_
        walk_at "gm"
        rw [← List.map_append]
        exact hn _ ⟨_, rfl, .v _⟩
      · rw [Bool.not_eq_false'] at hb
        rw [if_pos hb] at hn
        walk_at "gm"
        exact hn _ ⟨_, rfl, .v _⟩
    · rintro e ⟨v, rfl, hv⟩
      rw [List.length_map, List.take_length]
      walk_at "gm"
      refine optP_of (bi_sortL (ts := foundB m r h) ?_) ?_
      · intro z
        have := (found_len m r h).1
        rw [z] at this; simp at this
      walk_at "gm"
      exact ⟨rfl, rfl⟩
def lbS : FS := valS (fun p : List Int × List Int × Int => [.v (tupI p.1), .v (tupI p.2.1), .v (.int p.2.2)]) (fun p => p.1.length ≤ 6 ∧ p.2.1.length ≤ 6 ∧ p.2.2 ≤ 6) (fun p => .tuple ((lotsB p.1 p.2.1 p.2.2).map tupI))
def llD (cs : List (Int × Int)) (w : List Int) (d : Int) (as : List Int) : PyData := .tuple ((lotsB (dueL cs as) (rdyL cs as) (wAt w d)).map tupI)
theorem wAt_le {w : List Int} (hw : WkOk w) (d : Int) : 0 ≤ wAt w d ∧ wAt w d ≤ 6 := by
  unfold wAt
  cases q : w[d.toNat]? with
  | none => exact ⟨by decide, by decide⟩
  | some x => exact hw.all x (List.mem_of_getElem? q)
theorem w_let_lots (cs : List (Int × Int)) (w : List Int) (d : Int) (as : List Int) (hc : ChOk cs) (hw : WkOk w) (hs : StOk cs w d as) : wpF (gam [dueS, rdyS, lbS]) 60 b_let_lots 3 [.v (bkD cs w), .v (stD d as)] (fun u us' => u = .v (llD cs w d as) ∧ us' = [.v (bkD cs w), .v (stD d as)]) (fun _ _ => False) := by
  have h6 := hc.le
  have l1 := sel_len cs.length (dueF cs as)
  have l2 := sel_len cs.length (rdyF cs as)
  walk_at "gm"
  refine optP_of (wk_ix hs.d0 hs.d1) ?_
  walk_at "gm"
  refine call_due rfl hc hs ?_
  walk_at "gm"
  refine call_rdy rfl hc hs ?_
  walk_at "gm"
  refine call_val (args := fun p : List Int × List Int × Int => [.v (tupI p.1), .v (tupI p.2.1), .v (.int p.2.2)]) rfl (dueL cs as, rdyL cs as, wAt w d) rfl ⟨by show (dueL cs as).length ≤ 6; unfold dueL; omega, by show (rdyL cs as).length ≤ 6; unfold rdyL; omega, (wAt_le hw d).2⟩ ?_
  walk_at "gm"
  exact ⟨rfl, rfl⟩
/-! all lots -/
def maskL (n m : Nat) : List Int := selL n fun c => m.testBit c
def allL (n : Nat) : List (List Int) := (List.range (2 ^ n)).map (maskL n)
def bitP (m : Nat) : PyData → Bool
  | .int x => m.testBit x.toNat
  | _ => false
theorem band_all : ∀ m : Fin 64, ∀ c : Fin 6, decide (Builtin.bitAnd (((m.val : Nat) : Int) / 2 ^ c.val) 1 = 1) = m.val.testBit c.val := by decide +kernel
theorem band_bit {m c : Nat} (hm : m < 64) (hc : c < 6) : PyData.eqv (.int (Builtin.bitAnd ((m : Int) / 2 ^ ((c : Int)).toNat) 1)) (.int 1) = m.testBit c := by
  rw [eqv_int, Int.toNat_natCast]
  exact band_all ⟨m, hm⟩ ⟨c, hc⟩
theorem w_l_lots (n : Nat) (hn : n ≤ 6) : wpF (gam []) 60 b_l_lots 4 [.v (.int n)] (fun u us' => u = .o ((sortT (allL n)).map tupI) ∧ us' = [.v (.int n)]) (fun _ _ => False) := by
  walk_at "gm"
  refine ckP_of ⟨by omega, by omega, by decide⟩ ?_
  walk_at "gm"
  have p1 : (1 : Int) * 2 ^ ((n : Int)).toNat = ((2 ^ n : Nat) : Int) := by rw [Int.one_mul, Int.toNat_natCast, Int.natCast_pow]; rfl
  have p2 : 2 ^ n ≤ 2 ^ 6 := Nat.pow_le_pow_right (by omega) hn
  rw [p1]
  have p3 : ((2 ^ n : Nat) : Int) ≤ ((2 ^ 6 : Nat) : Int) := Int.ofNat_le.mpr p2
  have p4 : (0 : Int) ≤ ((2 ^ n : Nat) : Int) := Int.natCast_nonneg _
  refine ckP_of ⟨Int.le_trans (by decide) p4, Int.lt_of_le_of_lt p3 (by decide)⟩ ?_
  rw [Int.toNat_natCast]
  refine forP_inv (fun i e => ∃ v, e = [some (.v (.int n)), some (.o (((List.range i).map (maskL n)).map tupI)), v, none] ∧ Fre v) ⟨none, rfl, .no⟩ ?_ ?_
  · rintro i x e nx hx ⟨v, rfl, hv⟩ hn2
    obtain ⟨hi, rfl⟩ := rng_get hx
    rw [Int.zero_add]
    walk_at "gm"
    refine ckP_of ⟨by omega, by omega⟩ ?_
    walk_at "gm"
    rw [Int.toNat_natCast]
    refine ckP_of ⟨⟨True.intro, True.intro⟩, by rw [rngI_length]; unfold LIM; omega⟩ ?_
    refine compP_filter (bitP i) id (fun x hx nx hn3 => ?_) ?_
    · obtain ⟨c, hx⟩ := List.getElem?_of_mem hx
      obtain ⟨hc, rfl⟩ := rng_get hx
      rw [Int.zero_add] at hn3 ⊢
      walk_at "gm"
      refine ckP_of (by show (0 : Int) ≤ (c : Int); omega) ?_
      walk_at "gm"
      have e : bitP i (.int (c : Int)) = i.testBit c := rfl
      rw [e] at hn3
      refine brP_of (fun hb => ?_) fun hb => ?_
      · rw [band_bit (by omega) (by omega)] at hb
        rw [if_pos hb] at hn3
        walk_at "gm"
        exact hn3
      · rw [band_bit (by omega) (by omega)] at hb
        rw [if_neg (by rw [hb]; exact Bool.false_ne_true)] at hn3
        walk_at "gm"
        exact hn3
    walk_at "gm"
    refine ckP_of ?_ ?_
    · show (((List.range i).map (maskL n)).map tupI).length < LIM
      rw [List.length_map, List.length_map, List.length_range]; unfold LIM; omega
    walk_at "gm"
    have e3 : (((List.range (i + 1)).map (maskL n)).map tupI) = (((List.range i).map (maskL n)).map tupI) ++ [tupI (maskL n i)] := by
      rw [List.range_succ, List.map_append, List.map_append]; rfl
    rw [e3] at hn2
    rw [sel_rng (f := fun c => i.testBit c) fun c _ => rfl]
    exact hn2 _ ⟨_, rfl, .v _⟩
  · rintro e ⟨v, rfl, hv⟩
    rw [rngI_length]
    walk_at "gm"
    refine optP_of (bi_sortL (ts := allL n) ?_) ?_
    · intro z
      have : (allL n).length = 2 ^ n := by unfold allL; rw [List.length_map, List.length_range]
      rw [z, List.length_nil] at this
      have := Nat.two_pow_pos n
      omega
    walk_at "gm"
    exact ⟨rfl, rfl⟩
end GL

set_option maxRecDepth 100000
set_option maxHeartbeats 0
namespace GL
open PySem PySem.Spec PyProof.Rows L2 GM
local macro_rules | `(tactic| walk_at "gw") => `(tactic| conv => whnf)
local macro_rules | `(tactic| walk_at "g1") => `(tactic| first | refine optP_of rfl ?_ | (apply envP_of; focus ((try simp only [GM.start, List.map, List.length, List.reduceReplicate, Nat.reduceAdd, Nat.reduceSub, List.cons_append, List.nil_append, GM.put, GM.wb, GM.putR, GM.updE, GM.putF, List.reverse_cons, List.reverse_nil]); exact rfl)) | (refine ckP_of ?_ ?_; exact True.intro) | (refine ckP_of ?_ ?_; exact rfl) | (refine ckP_of ?_ ?_; exact ⟨rfl, rfl⟩) | (refine ckP_of ?_ ?_; exact ⟨True.intro, True.intro⟩) | (refine ckP_of ?_ ?_; exact asg_fr (by assumption) rfl) | (refine ckP_of ?_ ?_; exact ⟨asg_fr (by assumption) rfl, True.intro⟩) | refine brP_t rfl ?_ | refine brP_f rfl ?_ | fail)
local macro_rules | `(tactic| walk_at "gm") => `(tactic| (walk_at "gw"; repeat' (walk_at "g1"; walk_at "gw")))
/-! the plain law of the lots -/
theorem sel_congr {n : Nat} {f g : Nat → Bool} (h : ∀ c, c < n → f c = g c) : selL n f = selL n g := by
  unfold selL
  rw [List.filter_congr fun c hc => h c (List.mem_range.mp hc)]
theorem sel_inj {n : Nat} {f g : Nat → Bool} (h : selL n f = selL n g) : ∀ c, c < n → f c = g c := by
  intro c hc
  have h1 : (c : Int) ∈ selL n f ↔ (c : Int) ∈ selL n g := by rw [h]
  rw [sel_mem, sel_mem] at h1
  simp only [Int.toNat_natCast] at h1
  cases e : f c <;> cases e2 : g c <;> simp [e, e2] at h1 ⊢ <;> omega
theorem nodup_map_on {α β : Type} {f : α → β} {l : List α} (H : ∀ x ∈ l, ∀ y ∈ l, f x = f y → x = y) (d : l.Nodup) : (l.map f).Nodup := by
  unfold List.Nodup
  rw [List.pairwise_map]
  exact List.Pairwise.imp_of_mem (fun ha hb h e => h (H _ ha _ hb e)) d
theorem sel_nodup (n : Nat) (f : Nat → Bool) : (selL n f).Nodup := by
  unfold selL
  refine nodup_map_on ?_ (List.nodup_range.filter _)
  intro a _ b _ h
  omega
theorem sel_sorted (n : Nat) (f : Nat → Bool) : (selL n f).Pairwise (· ≤ ·) := by
  unfold selL
  rw [List.pairwise_map]
  refine (List.pairwise_lt_range.filter _).imp fun h => by omega
theorem sel_add {n k : Nat} {f : Nat → Bool} (hk : k < n) (hf : f k = false) : selL n (fun c => f c || decide (c = k)) = sortI (selL n f ++ [(k : Int)]) ∧ (selL n (fun c => f c || decide (c = k))).length = (selL n f).length + 1 := by
  have p : (selL n (fun c => f c || decide (c = k))).Perm (selL n f ++ [(k : Int)]) := by
    refine (List.perm_ext_iff_of_nodup (sel_nodup _ _) ?_).mpr fun a => ?_
    · rw [List.nodup_append]
      refine ⟨sel_nodup _ _, by simp, ?_⟩
      intro a ha b hb e
      rw [List.mem_singleton.mp hb] at e
      subst e
      have := (sel_mem.mp ha).2.2
      simp only [Int.toNat_natCast] at this
      rw [hf] at this; cases this
    · rw [List.mem_append, sel_mem, sel_mem, List.mem_singleton, Bool.or_eq_true, decide_eq_true_eq]
      constructor
      · rintro ⟨h1, h2, h3 | h3⟩
        · exact .inl ⟨h1, h2, h3⟩
        · exact .inr (by omega)
      · rintro (⟨h1, h2, h3⟩ | h3)
        · exact ⟨h1, h2, .inl h3⟩
        · subst h3; exact ⟨by omega, by omega, .inr (by simp)⟩
  refine ⟨sortI_uniq p (sel_sorted _ _), ?_⟩
  rw [p.length_eq, List.length_append, List.length_singleton]
structure LInv (n : Nat) (due : Nat → Bool) (h : Int) (F : List (List Int)) (S : List Int) : Prop where
  nd : F.Nodup
  mem : ∀ L, L ∈ F ↔ ∃ f : Nat → Bool, L = selL n f ∧ (∀ c, c < n → due c = true → f c = true) ∧ (∀ c, c < n → f c = true → due c = true ∨ (c : Int) ∈ S) ∧ ((selL n f).length : Int) ≤ h
theorem linv0 {n : Nat} {due : Nat → Bool} {h : Int} (hl : ((selL n due).length : Int) ≤ h) : LInv n due h [selL n due] [] := by
  refine ⟨by simp, fun L => ?_⟩
  rw [List.mem_singleton]
  constructor
  · rintro rfl
    exact ⟨due, rfl, fun _ _ x => x, fun _ _ x => .inl x, hl⟩
  · rintro ⟨f, rfl, h1, h2, _⟩
    refine sel_congr fun c hc => ?_
    cases e : f c with
    | true =>
      rcases h2 c hc e with z | z
      · exact z.symm
      · cases z
    | false =>
      cases e2 : due c with
      | true => rw [h1 c hc e2] at e; cases e
      | false => rfl
theorem linv_step {n k : Nat} {due : Nat → Bool} {h : Int} {F : List (List Int)} {S : List Int} (hk : k < n) (hS : (k : Int) ∉ S) (I : LInv n due h F S) : LInv n due h (stepB (selL n due) h F (k : Int)) (S ++ [(k : Int)]) := by
  have em : memB (selL n due) (k : Int) = due k := by
    cases e : due k with
    | true => exact memB_iff.mpr (sel_mem.mpr ⟨by omega, by omega, by simpa using e⟩)
    | false =>
      cases q : memB (selL n due) (k : Int) with
      | false => rfl
      | true =>
        have := (sel_mem.mp (memB_iff.mp q)).2.2
        simp only [Int.toNat_natCast] at this
        rw [e] at this; cases this
  unfold stepB
  rw [em]
  cases e : due k with
  | true =>
    rw [if_pos rfl]
    refine ⟨I.nd, fun L => ?_⟩
    rw [I.mem]
    constructor
    · rintro ⟨f, rfl, h1, h2, h3⟩
      exact ⟨f, rfl, h1, fun c hc hf => (h2 c hc hf).imp id fun z => List.mem_append_left _ z, h3⟩
    · rintro ⟨f, rfl, h1, h2, h3⟩
      refine ⟨f, rfl, h1, fun c hc hf => ?_, h3⟩
      rcases h2 c hc hf with z | z
      · exact .inl z
      · rcases List.mem_append.mp z with z | z
        · exact .inr z
        · have : c = k := by have := List.mem_singleton.mp z; omega
          subst this; exact .inl e
  | false =>
    rw [if_neg Bool.false_ne_true]
    have fk : ∀ {f : Nat → Bool}, (∀ c, c < n → f c = true → due c = true ∨ (c : Int) ∈ S) → f k = false := fun {f} h2 => by
      cases q : f k with
      | false => rfl
      | true =>
        rcases h2 k hk q with z | z
        · rw [e] at z; cases z
        · exact absurd z hS
    have shape : ∀ l ∈ F, ∃ f : Nat → Bool, l = selL n f ∧ f k = false ∧ addC (k : Int) l = selL n (fun c => f c || decide (c = k)) ∧ (selL n (fun c => f c || decide (c = k))).length = l.length + 1 ∧ (∀ c, c < n → due c = true → f c = true) ∧ (∀ c, c < n → f c = true → due c = true ∨ (c : Int) ∈ S) := fun l hl => by
      obtain ⟨f, rfl, h1, h2, h3⟩ := (I.mem l).mp hl
      obtain ⟨a1, a2⟩ := sel_add hk (fk h2)
      exact ⟨f, rfl, fk h2, a1.symm, a2, h1, h2⟩
    refine ⟨?_, fun L => ?_⟩
    · rw [List.nodup_append]
      refine ⟨I.nd, ?_, ?_⟩
      · refine nodup_map_on ?_ (I.nd.filter _)
        intro x hx y hy exy
        obtain ⟨f, rfl, f1, f2, _⟩ := shape x (List.mem_filter.mp hx).1
        obtain ⟨g, rfl, g1, g2, _⟩ := shape y (List.mem_filter.mp hy).1
        rw [f2, g2] at exy
        refine sel_congr fun c hc => ?_
        have := sel_inj exy c hc
        by_cases z : c = k
        · subst z; rw [f1, g1]
        · simpa [z] using this
      · intro a ha b hb eab
        obtain ⟨x, hx, rfl⟩ := List.mem_map.mp hb
        obtain ⟨f, rfl, f1, f2, _⟩ := shape x (List.mem_filter.mp hx).1
        obtain ⟨g, rfl, g1, _⟩ := shape a ha
        rw [f2] at eab
        have := sel_inj eab k hk
        rw [g1] at this
        simp at this
    · rw [List.mem_append, I.mem]
      constructor
      · rintro (⟨f, rfl, h1, h2, h3⟩ | hm)
        · exact ⟨f, rfl, h1, fun c hc hf => (h2 c hc hf).imp id fun z => List.mem_append_left _ z, h3⟩
        · obtain ⟨l, hl, rfl⟩ := List.mem_map.mp hm
          obtain ⟨hl1, hl2⟩ := List.mem_filter.mp hl
          obtain ⟨f, rfl, f1, f2, f3, f4, f5⟩ := shape l hl1
          have hl2 := of_decide_eq_true hl2
          refine ⟨_, f2, fun c hc hd => by show (f c || _) = true; rw [f4 c hc hd]; rfl, fun c hc hf => ?_, by rw [f3]; omega⟩
          have hf : (f c || decide (c = k)) = true := hf
          rcases Bool.or_eq_true_iff.mp hf with z | z
          · exact (f5 c hc z).imp id fun z => List.mem_append_left _ z
          · have := of_decide_eq_true z
            subst this
            exact .inr (List.mem_append_right _ (List.mem_singleton.mpr rfl))
      · rintro ⟨f, rfl, h1, h2, h3⟩
        cases q : f k with
        | false =>
          refine .inl ⟨f, rfl, h1, fun c hc hf => ?_, h3⟩
          rcases h2 c hc hf with z | z
          · exact .inl z
          · rcases List.mem_append.mp z with z | z
            · exact .inr z
            · have : c = k := by have := List.mem_singleton.mp z; omega
              subst this; rw [q] at hf; cases hf
        | true =>
          right
          let f0 : Nat → Bool := fun c => f c && !decide (c = k)
          have e0 : f0 k = false := by simp [f0]
          have ef : selL n f = selL n (fun c => f0 c || decide (c = k)) := sel_congr fun c _ => by
            by_cases z : c = k
            · subst z; simp [f0, q]
            · simp [f0, z]
          obtain ⟨a1, a2⟩ := sel_add hk e0
          rw [ef, a2] at h3
          refine List.mem_map.mpr ⟨selL n f0, List.mem_filter.mpr ⟨(I.mem _).mpr ⟨f0, rfl, fun c hc hd => ?_, fun c hc hf => ?_, by omega⟩, decide_eq_true (by omega)⟩, ?_⟩
          · have z : c ≠ k := by rintro rfl; rw [e] at hd; cases hd
            simp [f0, z, h1 c hc hd]
          · have hf : (f c && !decide (c = k)) = true := hf
            obtain ⟨z1, z2⟩ := Bool.and_eq_true_iff.mp hf
            have z3 : c ≠ k := by simpa using z2
            rcases h2 c hc z1 with z | z
            · exact .inl z
            · rcases List.mem_append.mp z with z | z
              · exact .inr z
              · exact absurd (by have := List.mem_singleton.mp z; omega) z3
          · rw [ef, a1]; rfl
theorem linv_all {n : Nat} {due : Nat → Bool} {h : Int} : ∀ {ks : List Nat} {F : List (List Int)} {S : List Int}, (∀ k ∈ ks, k < n ∧ (k : Int) ∉ S) → ks.Nodup → LInv n due h F S → LInv n due h ((ks.map fun (k : Nat) => (k : Int)).foldl (stepB (selL n due) h) F) (S ++ ks.map fun (k : Nat) => (k : Int))
  | [], F, S, _, _, I => by simpa using I
  | k :: ks, F, S, hk, hn, I => by
    obtain ⟨n1, n2⟩ := List.nodup_cons.mp hn
    obtain ⟨k1, k2⟩ := hk k List.mem_cons_self
    have := linv_all (ks := ks) (fun j hj => ⟨(hk j (List.mem_cons_of_mem _ hj)).1, fun z => by
      rcases List.mem_append.mp z with z | z
      · exact (hk j (List.mem_cons_of_mem _ hj)).2 z
      · have : j = k := by have := List.mem_singleton.mp z; omega
        subst this; exact n1 hj⟩) n2 (linv_step k1 k2 I)
    rw [List.append_assoc] at this
    exact this
theorem all_mask (f : Nat → Bool) : ∀ n : Nat, ∃ m, m < 2 ^ n ∧ ∀ c, c < n → m.testBit c = f c
  | 0 => ⟨0, by decide, fun c hc => by omega⟩
  | n + 1 => by
    obtain ⟨m, h1, h2⟩ := all_mask f n
    have e : 2 ^ (n + 1) = 2 ^ n + 2 ^ n := by rw [Nat.pow_succ]; omega
    cases q : f n with
    | false =>
      refine ⟨m, by omega, fun c hc => ?_⟩
      by_cases z : c = n
      · subst z; rw [q]; exact Nat.testBit_lt_two_pow h1
      · exact h2 c (by omega)
    | true =>
      refine ⟨2 ^ n + m, by omega, fun c hc => ?_⟩
      by_cases z : c = n
      · subst z; rw [q, Nat.testBit_two_pow_add_eq, Nat.testBit_lt_two_pow h1]; rfl
      · rw [Nat.testBit_two_pow_add_gt (by omega)]; exact h2 c (by omega)
theorem all_nodup : ∀ n : Fin 7, (allL n.val).Nodup := by decide +kernel
theorem all_mem {n : Nat} {L : List Int} : L ∈ allL n ↔ ∃ f, L = selL n f := by
  unfold allL
  rw [List.mem_map]
  constructor
  · rintro ⟨m, _, rfl⟩; exact ⟨_, rfl⟩
  · rintro ⟨f, rfl⟩
    obtain ⟨m, h1, h2⟩ := all_mask f n
    exact ⟨m, List.mem_range.mpr h1, sel_congr h2⟩
theorem lots_law {cs : List (Int × Int)} {w as : List Int} {d : Int} (hc : ChOk cs) : lotsB (dueL cs as) (rdyL cs as) (wAt w d) = (sortT (allL cs.length)).filter (letB cs w d as) := by
  have hdr : ∀ c, c < cs.length → dueF cs as c = true → rdyF cs as c = true := fun c hcl hd => by
    have hd := of_decide_eq_true hd
    have hm := hc.all cs[c] (List.getElem_mem hcl)
    refine decide_eq_true ?_
    rw [hd]
    simp only [lo, hi, List.getElem?_eq_getElem hcl, Option.getD_some]
    omega
  have let_iff : ∀ f : Nat → Bool, letB cs w d as (selL cs.length f) = true ↔ ((selL cs.length f).length : Int) ≤ wAt w d ∧ (∀ c, c < cs.length → f c = true → rdyF cs as c = true) ∧ ∀ c, c < cs.length → dueF cs as c = true → f c = true := fun f => by
    unfold letB
    rw [Bool.and_eq_true, Bool.and_eq_true, decide_eq_true_eq, List.all_eq_true, List.all_eq_true, and_assoc]
    refine and_congr Iff.rfl (and_congr ⟨fun h c hcl hf => ?_, fun h x hx => ?_⟩ ⟨fun h c hcl hf => ?_, fun h x hx => ?_⟩)
    · have := h (c : Int) (sel_mem.mpr ⟨by omega, by omega, by simpa using hf⟩)
      simpa using this
    · obtain ⟨x0, x1, x2⟩ := sel_mem.mp hx
      exact h _ (by omega) x2
    · have := memB_iff.mp (h (c : Int) (sel_mem.mpr ⟨by omega, by omega, by simpa using hf⟩))
      simpa using (sel_mem.mp this).2.2
    · obtain ⟨x0, x1, x2⟩ := sel_mem.mp hx
      exact memB_iff.mpr (sel_mem.mpr ⟨x0, x1, h _ (by omega) x2⟩)
  unfold lotsB
  split
  · rename_i hlt
    symm
    rw [List.filter_eq_nil_iff]
    intro L hL hlet
    obtain ⟨f, rfl⟩ := all_mem.mp ((sortT_perm _).mem_iff.mp hL)
    obtain ⟨h1, _, h3⟩ := (let_iff f).mp hlet
    have : (dueL cs as).length ≤ (selL cs.length f).length := by
      unfold dueL selL
      rw [List.length_map, List.length_map, ← List.countP_eq_length_filter, ← List.countP_eq_length_filter]
      exact List.countP_mono_left fun c hcm hd => h3 c (List.mem_range.mp hcm) hd
    omega
  · rename_i hge
    have I0 := linv0 (n := cs.length) (due := dueF cs as) (h := wAt w d) (by show ((dueL cs as).length : Int) ≤ _; omega)
    have I := linv_all (ks := (List.range cs.length).filter (rdyF cs as)) (S := []) (fun k hk => ⟨List.mem_range.mp (List.mem_filter.mp hk).1, by simp⟩) (List.nodup_range.filter _) I0
    have I : LInv cs.length (dueF cs as) (wAt w d) (foundB (dueL cs as) (rdyL cs as) (wAt w d)) (rdyL cs as) := I
    have h7 : cs.length < 7 := by have := hc.le; omega
    symm
    refine sortT_uniq ?_ ((sortT_sorted _).filter _)
    refine (List.perm_ext_iff_of_nodup ((List.Perm.nodup_iff (sortT_perm _)).mpr (all_nodup ⟨_, h7⟩) |>.filter _) I.nd).mpr fun L => ?_
    rw [List.mem_filter, (sortT_perm _).mem_iff, I.mem, all_mem]
    constructor
    · rintro ⟨⟨f, rfl⟩, hl⟩
      obtain ⟨h1, h2, h3⟩ := (let_iff f).mp hl
      exact ⟨f, rfl, h3, fun c hcl hf => .inr (sel_mem.mpr ⟨by omega, by omega, by simpa using h2 c hcl hf⟩), h1⟩
    · rintro ⟨f, rfl, h1, h2, h3⟩
      refine ⟨⟨f, rfl⟩, (let_iff f).mpr ⟨h3, fun c hcl hf => ?_, h1⟩⟩
      rcases h2 c hcl hf with z | z
      · exact hdr c hcl z
      · simpa using (sel_mem.mp z).2.2
end GL

set_option maxRecDepth 100000
set_option maxHeartbeats 0
namespace GL
open PySem PySem.Spec PyProof.Rows L2 GM
local macro_rules | `(tactic| walk_at "gw") => `(tactic| conv => whnf)
local macro_rules | `(tactic| walk_at "g1") => `(tactic| first | refine optP_of rfl ?_ | (apply envP_of; focus ((try simp only [GM.start, List.map, List.length, List.reduceReplicate, Nat.reduceAdd, Nat.reduceSub, List.cons_append, List.nil_append, GM.put, GM.wb, GM.putR, GM.updE, GM.putF, List.reverse_cons, List.reverse_nil]); exact rfl)) | (refine ckP_of ?_ ?_; exact True.intro) | (refine ckP_of ?_ ?_; exact rfl) | (refine ckP_of ?_ ?_; exact ⟨rfl, rfl⟩) | (refine ckP_of ?_ ?_; exact ⟨True.intro, True.intro⟩) | (refine ckP_of ?_ ?_; exact asg_fr (by assumption) rfl) | (refine ckP_of ?_ ?_; exact ⟨asg_fr (by assumption) rfl, True.intro⟩) | refine brP_t rfl ?_ | refine brP_f rfl ?_ | fail)
local macro_rules | `(tactic| walk_at "gm") => `(tactic| (walk_at "gw"; repeat' (walk_at "g1"; walk_at "gw")))
/-! all standings -/
def grow (rows : List (List Int)) (g : Int) : List (List Int) := rows.flatMap fun r => (List.range g.toNat).map fun (k : Nat) => r ++ [1 + (k : Int)]
def allR (cs : List (Int × Int)) : List (List Int) := cs.foldl (fun rows c => grow rows c.2) [[]]
def stAll (cs : List (Int × Int)) (n : Nat) : List PyData := (List.range n).flatMap fun (d : Nat) => (allR cs).map fun r => stD d r
def allD (cs : List (Int × Int)) (w : List Int) : PyData := .tuple (stAll cs w.length)
def PB (cs : List (Int × Int)) : Prop := ∀ i, i ≤ cs.length → (allR (cs.take i)).length ≤ 2000
theorem grow_len (rows : List (List Int)) (g : Int) : (grow rows g).length = rows.length * g.toNat := by
  unfold grow
  induction rows with
  | nil => simp
  | cons r rows ih => rw [List.flatMap_cons, List.length_append, ih, List.length_map, List.length_range, List.length_cons, Nat.succ_mul]; omega
theorem allR_snoc (cs : List (Int × Int)) (c : Int × Int) : allR (cs ++ [c]) = grow (allR cs) c.2 := by unfold allR; rw [List.foldl_append]; rfl
def growD (g : Int) : PyData → List PyData
  | .tuple xs => (rngI 1 g.toNat).map fun k => .tuple (xs ++ [k])
  | _ => []
theorem grow_map (rows : List (List Int)) (g : Int) : (rows.map tupI).flatMap (growD g) = (grow rows g).map tupI := by
  unfold grow
  rw [List.flatMap_map, List.map_flatMap]
  refine congrArg (fun f => rows.flatMap f) (funext fun r => ?_)
  show (rngI 1 g.toNat).map (fun k => PyData.tuple (r.map .int ++ [k])) = _
  unfold rngI
  rw [List.map_map, List.map_map]
  refine List.map_congr_left fun k _ => ?_
  simp [tupI]
theorem allR_mem {cs : List (Int × Int)} {r : List Int} (h : r ∈ allR cs) : r.length = cs.length := by
  have go : ∀ (cs : List (Int × Int)) (rows : List (List Int)) (k : Nat), (∀ r ∈ rows, r.length = k) → ∀ r ∈ cs.foldl (fun rows c => grow rows c.2) rows, r.length = k + cs.length := by
    intro cs
    induction cs with
    | nil => intro rows k h r hr; exact h r hr
    | cons c cs ih =>
      intro rows k h r hr
      rw [List.foldl_cons] at hr
      have := ih (grow rows c.2) (k + 1) (fun q hq => by
        obtain ⟨q0, hq0, hq⟩ := List.mem_flatMap.mp hq
        obtain ⟨j, _, rfl⟩ := List.mem_map.mp hq
        rw [List.length_append, h q0 hq0]; rfl) r hr
      rw [this, List.length_cons]; omega
  have := go cs [[]] 0 (by simp) r h
  omega
def stF (rows : List PyData) : PyData → List PyData
  | .int d => rows.map fun r => .tuple [.int d, r]
  | _ => []
theorem st_map (cs : List (Int × Int)) (n : Nat) : (rngI 0 n).flatMap (stF ((allR cs).map tupI)) = stAll cs n := by
  unfold stAll
  rw [rng_map, List.flatMap_map]
  refine congrArg (fun f => (List.range n).flatMap f) (funext fun d => ?_)
  show ((allR cs).map tupI).map (fun r => PyData.tuple [.int (d : Int), r]) = _
  rw [List.map_map]; rfl
theorem w_all_standings (cs : List (Int × Int)) (w : List Int) (hc : ChOk cs) (hw : WkOk w) (hb : PB cs) : wpF (gam []) 60 b_all_standings 6 [.v (bkD cs w)] (fun u us' => u = .v (allD cs w) ∧ us' = [.v (bkD cs w)]) (fun _ _ => False) := by
  have h7 := hw.le
  walk_at "gm"
  refine forP_inv (fun i e => ∃ v, e = [some (.v (bkD cs w)), some (.o ((allR (cs.take i)).map tupI)), v, none, none, none] ∧ Fre v) ⟨none, rfl, .no⟩ ?_ ?_
  · rintro i x e nx hx ⟨v, rfl, hv⟩ hn
    obtain ⟨c, hx0, rfl⟩ := map_at hx
    have hi : i < cs.length := (List.getElem?_eq_some_iff.mp hx0).1
    obtain ⟨c1, c2, c3⟩ := hc.all c (List.mem_of_getElem? hx0)
    have hl := hb i (by omega)
    have hr6 : ∀ r ∈ allR (cs.take i), r.length ≤ 6 := fun r hr => by
      rw [allR_mem hr, List.length_take]; have := hc.le; omega
    rw [take_get hx0, allR_snoc] at hn
    generalize allR (cs.take i) = R at hn hl hr6 ⊢
    obtain ⟨a, g⟩ := c
    simp only at c1 c2 c3 hn
    walk_at "gm"
    refine ckP_of ⟨⟨True.intro, True.intro, True.intro⟩, by rw [List.length_map]; omega⟩ ?_
    refine compP_each (growD g) (fun x hx nx hn2 => ?_) ?_
    · obtain ⟨r, hr, rfl⟩ := List.mem_map.mp hx
      walk_at "gm"
      refine ckP_of ⟨by decide, by decide, by omega, by omega⟩ ?_
      walk_at "gw"
      rw [show g + 1 - 1 = g by omega]
      refine ckP_of (by rw [rngI_length]; omega) ?_
      refine compP_map (fun k => .tuple (r.map .int ++ [k])) (fun k hk nx hn3 => ?_) ?_
      · obtain ⟨j, hk⟩ := List.getElem?_of_mem hk
        obtain ⟨hj, rfl⟩ := rng_get hk
        have := hr6 r hr
        walk_at "gm"
        refine ckP_of (by show (r.map PyData.int).length + 1 ≤ LIM; rw [List.length_map]; unfold LIM; omega) ?_
        walk_at "gm"
        exact hn3
      · walk_at "gm"
        exact hn2
    · rw [List.nil_append, grow_map]
      walk_at "gm"
      exact hn _ ⟨_, rfl, .v _⟩
  · rintro e ⟨v, rfl, hv⟩
    have hl := hb cs.length (Nat.le_refl _)
    rw [len_rows]
    rw [List.take_length] at hl ⊢
    walk_at "gm"
    refine ckP_of ⟨by show -(2 ^ 62) ≤ ((w.map PyData.int).length : Int); rw [List.length_map]; omega, by show ((w.map PyData.int).length : Int) < 2 ^ 62; rw [List.length_map]; omega⟩ ?_
    walk_at "gm"
    rw [List.length_map, Int.toNat_natCast]
    refine ckP_of ⟨⟨True.intro, True.intro, True.intro⟩, by rw [rngI_length]; omega⟩ ?_
    refine compP_inv (fun i acc e => acc = ((rngI 0 w.length).take i).flatMap (stF ((allR cs).map tupI)) ∧ ∃ u, e = [some (.v (bkD cs w)), u, v, none, none, none] ∧ (u = some (.o ((allR cs).map tupI)) ∨ u = some (.v (.list ((allR cs).map tupI))))) ⟨rfl, _, rfl, .inl rfl⟩ ?_ ?_
    · rintro i x acc e nx hx ⟨rfl, u, rfl, hu⟩ hn2
      rw [take_get hx, List.flatMap_append] at hn2
      obtain ⟨hj, rfl⟩ := rng_get hx
      rw [Int.zero_add] at hn2 ⊢
      have fin : nx (((allR cs).map tupI).map fun r => .tuple [.int (i : Int), r]) [some (.v (bkD cs w)), some (.v (.list ((allR cs).map tupI))), v, none, none, none] := hn2 _ _ ⟨by rw [List.flatMap_singleton]; rfl, _, rfl, .inr rfl⟩
      rcases hu with rfl | rfl
      all_goals
        walk_at "gm"
        refine ckP_of (by rw [List.length_map]; omega) ?_
        refine compP_map (fun r => .tuple [.int (i : Int), r]) (fun r hr nx hn3 => ?_) ?_
        · walk_at "gm"
          exact hn3
        · walk_at "gm"
          exact fin
    · rintro acc e ⟨rfl, u, rfl, hu⟩
      rw [List.take_length, st_map]
      have fr : True := trivial
      walk_at "gm"
      exact ⟨rfl, rfl⟩
theorem grow_snoc (R : List (List Int)) (r : List Int) (g : Int) : (grow (R ++ [r]) g).map tupI = (grow R g).map tupI ++ (rngI 1 g.toNat).map fun k => .tuple (r.map .int ++ [k]) := by
  rw [← grow_map, ← grow_map, List.map_append, List.flatMap_append, List.map_singleton, List.flatMap_singleton]; rfl
theorem w_l_all (cs : List (Int × Int)) (w : List Int) (hc : ChOk cs) (hw : WkOk w) (hb : PB cs) : wpF (gam []) 60 b_l_all 9 [.v (bkD cs w)] (fun u us' => u = .v (allD cs w) ∧ us' = [.v (bkD cs w)]) (fun _ _ => False) := by
  have h7 := hw.le
  walk_at "gm"
  refine forP_inv (fun i e => ∃ u a b c f : Option U, e = [some (.v (bkD cs w)), u, a, b, c, f, none, none, none] ∧ (u = some (.o ((allR (cs.take i)).map tupI)) ∨ u = some (.v (.list ((allR (cs.take i)).map tupI)))) ∧ Fre a ∧ Fre b ∧ Fre c ∧ Fre f) ⟨_, none, none, none, none, rfl, .inl rfl, .no, .no, .no, .no⟩ ?_ ?_
  · rintro i x e nx hx ⟨u, a, b, c, f, rfl, hu, ha, hb2, hcc, hf⟩ hn
    obtain ⟨c, hx0, rfl⟩ := map_at hx
    have hi : i < cs.length := (List.getElem?_eq_some_iff.mp hx0).1
    obtain ⟨c1, c2, c3⟩ := hc.all c (List.mem_of_getElem? hx0)
    have hl := hb i (by omega)
    have hr6 : ∀ r ∈ allR (cs.take i), r.length ≤ 6 := fun r hr => by
      rw [allR_mem hr, List.length_take]; have := hc.le; omega
    rw [take_get hx0, allR_snoc] at hn
    generalize allR (cs.take i) = R at hn hl hr6 hu ⊢
    obtain ⟨l, g⟩ := c
    simp only at c1 c2 c3 hn
    rcases hu with rfl | rfl
    all_goals
      walk_at "gm"
      refine forP_inv (fun j e => ∃ f, e = [some (.v (bkD cs w)), some (.v (.list (R.map tupI))), some (.v (.int l)), some (.v (.int g)), some (.o ((grow (R.take j) g).map tupI)), f, none, none, none] ∧ Fre f) ⟨_, rfl, hf⟩ ?_ ?_
      · rintro j x e nx2 hx ⟨f, rfl, hf⟩ hn2
        obtain ⟨r, hr0, rfl⟩ := map_at hx
        have hr := hr6 r (List.mem_of_getElem? hr0)
        have gl := grow_len (R.take j) g
        have gl2 : (R.take j).length * g.toNat ≤ 2000 * 40 := Nat.mul_le_mul (by rw [List.length_take]; omega) (by omega)
        rw [take_get hr0, grow_snoc] at hn2
        generalize grow (R.take j) g = G at hn2 gl ⊢
        have e1 : (tupI r) = .tuple (r.map .int) := rfl
        rw [e1]
        walk_at "gm"
        refine ckP_of ⟨by decide, by decide, by omega, by omega⟩ ?_
        walk_at "gm"
        rw [show g + 1 - 1 = g by omega]
        refine ckP_of ⟨⟨True.intro, True.intro⟩, by rw [rngI_length]; unfold LIM; omega⟩ ?_
        refine compP_map (fun k => .tuple (r.map .int ++ [k])) (fun k hk nx hn3 => ?_) ?_
        · obtain ⟨m, hk⟩ := List.getElem?_of_mem hk
          obtain ⟨hm, rfl⟩ := rng_get hk
          walk_at "gm"
          refine ckP_of (by show (r.map PyData.int).length + 1 ≤ LIM; rw [List.length_map]; unfold LIM; omega) ?_
          walk_at "gm"
          exact hn3
        walk_at "gm"
        refine ckP_of ?_ ?_
        · show (G.map tupI).length + ((rngI 1 g.toNat).map _).length ≤ LIM
          rw [List.length_map, List.length_map, rngI_length]; unfold LIM; omega
        walk_at "gm"
        exact hn2 _ ⟨_, rfl, .v _⟩
      · rintro e ⟨f, rfl, hf⟩
        rw [List.length_map, List.take_length]
        walk_at "gm"
        exact hn _ ⟨_, _, _, _, _, rfl, .inr rfl, .v _, .v _, .v _, hf⟩
  · rintro e ⟨u, a, b, c, f, rfl, hu, ha, hb2, hcc, hf⟩
    have hl := hb cs.length (Nat.le_refl _)
    rw [len_rows, List.take_length] at hu
    rw [List.take_length] at hl
    walk_at "gm"
    refine ckP_of ⟨by show -(2 ^ 62) ≤ ((w.map PyData.int).length : Int); rw [List.length_map]; omega, by show ((w.map PyData.int).length : Int) < 2 ^ 62; rw [List.length_map]; omega⟩ ?_
    walk_at "gm"
    rw [List.length_map, Int.toNat_natCast]
    refine forP_inv (fun j e => ∃ u f d, e = [some (.v (bkD cs w)), u, a, b, c, f, none, some (.o (stAll cs j)), d] ∧ (u = some (.o ((allR cs).map tupI)) ∨ u = some (.v (.list ((allR cs).map tupI)))) ∧ Fre f ∧ Fre d) ⟨u, f, none, rfl, hu, hf, .no⟩ ?_ ?_
    · rintro j x e nx hx ⟨u, f, d, rfl, hu, hf, hd⟩ hn
      obtain ⟨hj, rfl⟩ := rng_get hx
      rw [Int.zero_add]
      have e1 : stAll cs (j + 1) = stAll cs j ++ ((allR cs).map tupI).map fun r => .tuple [.int (j : Int), r] := by
        unfold stAll
        rw [List.range_succ, List.flatMap_append, List.flatMap_singleton, List.map_map]; rfl
      have e2 : (stAll cs j).length ≤ j * 2000 := by
        unfold stAll
        rw [List.length_flatMap]
        simp only [List.length_map]
        rw [List.map_const', List.sum_replicate_nat, List.length_range]
        exact Nat.mul_le_mul_left _ hl
      rw [e1] at hn
      generalize stAll cs j = G at hn e2 ⊢
      rcases hu with rfl | rfl
      all_goals
        walk_at "gm"
        refine ckP_of ⟨⟨plain_fr hf rfl, True.intro⟩, by rw [List.length_map]; unfold LIM; omega⟩ ?_
        refine compP_map (fun r => .tuple [.int (j : Int), r]) (fun r hr nx hn3 => ?_) ?_
        · walk_at "gm"
          exact hn3
        walk_at "gm"
        refine ckP_of ?_ ?_
        · show G.length + (((allR cs).map tupI).map _).length ≤ LIM
          rw [List.length_map, List.length_map]; unfold LIM; omega
        walk_at "gm"
        exact hn _ ⟨_, _, _, rfl, .inr rfl, hf, .v _⟩
    · rintro e ⟨u, f, d, rfl, hu, hf, hd⟩
      rw [rngI_length]
      walk_at "gm"
      exact ⟨rfl, rfl⟩
end GL

set_option maxRecDepth 100000
set_option maxHeartbeats 0
namespace GL
open PySem PySem.Spec PyProof.Rows L2 GM
local macro_rules | `(tactic| walk_at "gw") => `(tactic| conv => whnf)
local macro_rules | `(tactic| walk_at "g1") => `(tactic| first | refine optP_of rfl ?_ | (apply envP_of; focus ((try simp only [GM.start, List.map, List.length, List.reduceReplicate, Nat.reduceAdd, Nat.reduceSub, List.cons_append, List.nil_append, GM.put, GM.wb, GM.putR, GM.updE, GM.putF, List.reverse_cons, List.reverse_nil]); exact rfl)) | (refine ckP_of ?_ ?_; exact True.intro) | (refine ckP_of ?_ ?_; exact rfl) | (refine ckP_of ?_ ?_; exact ⟨rfl, rfl⟩) | (refine ckP_of ?_ ?_; exact ⟨True.intro, True.intro⟩) | (refine ckP_of ?_ ?_; exact asg_fr (by assumption) rfl) | (refine ckP_of ?_ ?_; exact ⟨asg_fr (by assumption) rfl, True.intro⟩) | refine brP_t rfl ?_ | refine brP_f rfl ?_ | fail)
local macro_rules | `(tactic| walk_at "gm") => `(tactic| (walk_at "gw"; repeat' (walk_at "g1"; walk_at "gw")))
/-! the law's small books, its standings -/
theorem foldl_mono : ∀ (cs : List (Int × Int)) (rows : List (List Int)), (∀ c ∈ cs, 1 ≤ c.2) → rows.length ≤ (cs.foldl (fun rows c => grow rows c.2) rows).length
  | [], _, _ => Nat.le_refl _
  | c :: cs, rows, h => by
    rw [List.foldl_cons]
    refine Nat.le_trans ?_ (foldl_mono cs (grow rows c.2) fun x hx => h x (List.mem_cons_of_mem _ hx))
    rw [grow_len]
    have := h c List.mem_cons_self
    exact Nat.le_mul_of_pos_right _ (by omega)
theorem allR_pre (cs : List (Int × Int)) (h : ChOk cs) (i : Nat) : (allR (cs.take i)).length ≤ (allR cs).length := by
  conv => rhs; rw [← List.take_append_drop i cs]
  unfold allR
  rw [List.foldl_append]
  exact foldl_mono _ _ fun c hc => by have := h.all c (List.mem_of_mem_drop hc); omega
theorem allR_pow : ∀ {cs : List (Int × Int)}, (∀ c ∈ cs, c.2 ≤ 40) → (allR cs).length ≤ 40 ^ cs.length := by
  intro cs h
  have go : ∀ (cs : List (Int × Int)) (rows : List (List Int)), (∀ c ∈ cs, c.2 ≤ 40) → (cs.foldl (fun rows c => grow rows c.2) rows).length ≤ rows.length * 40 ^ cs.length := by
    intro cs
    induction cs with
    | nil => intro rows _; simp
    | cons c cs ih =>
      intro rows h
      rw [List.foldl_cons]
      refine Nat.le_trans (ih _ fun x hx => h x (List.mem_cons_of_mem _ hx)) ?_
      rw [grow_len, List.length_cons, Nat.pow_succ]
      have := h c List.mem_cons_self
      have e : rows.length * c.2.toNat ≤ rows.length * 40 := Nat.mul_le_mul_left _ (by omega)
      calc rows.length * c.2.toNat * 40 ^ cs.length ≤ rows.length * 40 * 40 ^ cs.length := Nat.mul_le_mul_right _ e
        _ = rows.length * (40 ^ cs.length * 40) := by rw [Nat.mul_assoc, Nat.mul_comm 40]
  have := go cs [[]] h
  rw [List.length_singleton, Nat.one_mul] at this
  exact this
theorem PB_small {cs : List (Int × Int)} (h : ChOk cs) (hl : (allR cs).length ≤ 60) : PB cs := fun i _ => by
  have := allR_pre cs h i
  omega
theorem ChOk.take {cs : List (Int × Int)} (h : ChOk cs) {k : Nat} (hk : 1 ≤ k) : ChOk (cs.take k) :=
  ⟨fun z => by have := List.length_pos_iff.mpr h.ne; have e := congrArg List.length z; rw [List.length_take, List.length_nil] at e; omega, by rw [List.length_take]; have := h.le; omega, fun c hc => h.all c (List.mem_of_mem_take hc)⟩
theorem WkOk.take {w : List Int} (h : WkOk w) {k : Nat} (hk : 1 ≤ k) : WkOk (w.take k) :=
  ⟨fun z => by have := List.length_pos_iff.mpr h.ne; have e := congrArg List.length z; rw [List.length_take, List.length_nil] at e; omega, by rw [List.length_take]; have := h.le; omega, fun c hc => h.all c (List.mem_of_mem_take hc)⟩
theorem PB_two {cs : List (Int × Int)} (h : ChOk cs) : PB (cs.take 2) := fun i _ => by
  have h2 := h.take (k := 2) (by omega)
  have h1 := allR_pow (cs := (cs.take 2).take i) fun c hc => (h2.all c (List.mem_of_mem_take hc)).2.2
  have h3 : 40 ^ ((cs.take 2).take i).length ≤ 40 ^ 2 := Nat.pow_le_pow_right (by omega) (by rw [List.length_take, List.length_take]; omega)
  omega
def smallS : FS := { α := List PyData, args := fun p => [.r p], pre := fun p => TubOk p, post := fun _ r us' => ∃ (cs : List (Int × Int)) (w : List Int) (p : List PyData), r = .v (bkD cs w) ∧ ChOk cs ∧ WkOk w ∧ PB cs ∧ TubOk p ∧ us' = [.r p] }
theorem w_l_small (p : List PyData) (hp : TubOk p) : wpF (gam [takeS, bookS]) 60 b_l_small 7 [.r p] (fun r us' => ∃ (cs : List (Int × Int)) (w : List Int) (p : List PyData), r = .v (bkD cs w) ∧ ChOk cs ∧ WkOk w ∧ PB cs ∧ TubOk p ∧ us' = [.r p]) (fun _ _ => False) := by
  walk_at "gm"
  refine call_take rfl hp (by decide) (by decide) fun k1 p1 k10 k11 hp1 => ?_
  walk_at "gm"
  obtain ⟨x, hx, m, rfl, m1, m2⟩ := pick_tup (xs := [.int 9, .int 4, .int 3]) (i := 1 + k1 - 1) (P := fun d => ∃ m, d = .int m ∧ 1 ≤ m ∧ m ≤ 40) (by omega) (by simp; omega) (by
    intro x hx
    simp only [List.mem_cons, List.not_mem_nil, or_false] at hx
    rcases hx with rfl | rfl | rfl <;> exact ⟨_, rfl, by omega, by omega⟩)
  refine optP_of hx ?_
  walk_at "gm"
  refine call_book rfl hp1 (by omega) (by omega) m1 m2 (by decide) (by decide) fun cs w p2 hc hw hp2 => ?_
  walk_at "gm"
  refine forP_inv (fun i e => ∃ a b, e = [some (.r p2), some (.v (.int (1 + k1))), some (.v (.int m)), some (.v (bkD cs w)), some (.v (.int ((allR (cs.take i)).length : Int))), a, b] ∧ Fre a ∧ Fre b) ⟨none, none, rfl, .no, .no⟩ ?_ ?_
  · rintro i x e nx hx ⟨a, b, rfl, ha, hb⟩ hn
    obtain ⟨c, hx0, rfl⟩ := map_at hx
    obtain ⟨c1, c2, c3⟩ := hc.all c (List.mem_of_getElem? hx0)
    rw [take_get hx0, allR_snoc, grow_len] at hn
    obtain ⟨l, g⟩ := c
    simp only at c1 c2 c3 hn
    walk_at "gm"
    refine ckP_of (mulC_r (by omega) (by omega)) ?_
    walk_at "gm"
    have e1 : ((((allR (cs.take i)).length * g.toNat : Nat)) : Int) = ((allR (cs.take i)).length : Int) * g := by rw [Int.natCast_mul, Int.toNat_of_nonneg (by omega)]
    rw [e1] at hn
    exact hn _ ⟨_, _, rfl, .v _, .v _⟩
  · rintro e ⟨a, b, rfl, ha, hb⟩
    rw [len_rows, List.take_length]
    have hpos : 1 ≤ (allR cs).length := by
      have := allR_pre cs hc 0
      exact this
    walk_at "gm"
    refine brP_of (fun h => ?_) fun h => ?_
    · have h : ((allR cs).length : Int) ≤ 60 := of_decide_eq_true h
      walk_at "gm"
      refine ckP_of (divC_of (by omega) (by omega)) ?_
      walk_at "gm"
      obtain ⟨k, hk, hk1⟩ : ∃ k : Nat, (if 60 / ((allR cs).length : Int) > 1 then 60 / ((allR cs).length : Int) else 1) = (k : Int) ∧ 1 ≤ k := by
        split
        · rename_i h; exact ⟨(60 / ((allR cs).length : Int)).toNat, by omega, by omega⟩
        · exact ⟨1, rfl, by omega⟩
      rw [hk, cut_none, ← List.map_take]
      exact ⟨cs, w.take k, p2, rfl, hc, hw.take hk1, PB_small hc (by omega), hp2, rfl⟩
    · walk_at "gm"
      have e1 : cutL (rowsD cs) none (some 2) = rowsD (cs.take 2) := by
        rw [show (2 : Int) = ((2 : Nat) : Int) from rfl, cut_none, rowsD, rowsD, List.map_take]
      have e2 : cutL (w.map PyData.int) none (some 1) = (w.take 1).map PyData.int := by
        rw [show (1 : Int) = ((1 : Nat) : Int) from rfl, cut_none, List.map_take]
      rw [e1, e2]
      exact ⟨cs.take 2, w.take 1, p2, rfl, hc.take (by omega), hw.take (by omega), PB_two hc, hp2, rfl⟩
def stdS : FS := { α := List PyData × List (Int × Int) × List Int, args := fun a => [.r a.1, .v (bkD a.2.1 a.2.2)], pre := fun a => TubOk a.1 ∧ ChOk a.2.1 ∧ WkOk a.2.2, post := fun a r us' => ∃ (d : Int) (as : List Int) (p : List PyData), r = .v (stD d as) ∧ StOk a.2.1 a.2.2 d as ∧ TubOk p ∧ us' = [.r p, .v (bkD a.2.1 a.2.2)] }
theorem w_l_standing (p : List PyData) (cs : List (Int × Int)) (w : List Int) (hp : TubOk p) (hc : ChOk cs) (hw : WkOk w) : wpF (gam [takeS]) 60 b_l_standing 6 [.r p, .v (bkD cs w)] (fun r us' => ∃ (d : Int) (as : List Int) (p : List PyData), r = .v (stD d as) ∧ StOk cs w d as ∧ TubOk p ∧ us' = [.r p, .v (bkD cs w)]) (fun _ _ => False) := by
  have h6 := hc.le
  have h7 := hw.le
  have hl := List.length_pos_iff.mpr hw.ne
  walk_at "gm"
  refine call_take rfl hp (by decide) (by decide) fun k1 p1 k10 k11 hp1 => ?_
  walk_at "gm"
  refine forP_inv (fun i e => ∃ (p : List PyData) (as : List Int) (a b : Option U), e = [some (.r p), some (.v (bkD cs w)), some (.v (.int k1)), some (.o (as.map .int)), a, b] ∧ TubOk p ∧ as.length = i ∧ Fre a ∧ Fre b) ⟨p1, [], none, none, rfl, hp1, rfl, .no, .no⟩ ?_ ?_
  · rintro i x e nx hx ⟨p, as, a, b, rfl, hp, hl, ha, hb⟩ hn
    obtain ⟨c, hx0, rfl⟩ := map_at hx
    have hi : i < cs.length := (List.getElem?_eq_some_iff.mp hx0).1
    obtain ⟨c1, c2, c3⟩ := hc.all c (List.mem_of_getElem? hx0)
    obtain ⟨l, g⟩ := c
    simp only at c1 c2 c3
    have fin : ∀ (v : Int) (q : List PyData), TubOk q → nx [some (.r q), some (.v (bkD cs w)), some (.v (.int k1)), some (.o (as.map .int ++ [.int v])), some (.v (.int l)), some (.v (.int g))] := fun v q hq =>
      hn _ ⟨q, as ++ [v], _, _, by rw [List.map_append]; rfl, hq, by rw [List.length_append, hl]; rfl, .v _, .v _⟩
    walk_at "gm"
    refine call_take rfl hp (by omega) (by omega) fun k2 p2 k20 k21 hp2 => ?_
    walk_at "gm"
    refine call_take rfl hp2 (by omega) (by omega) fun k3 p3 k30 k31 hp3 => ?_
    walk_at "gm"
    refine call_take rfl hp3 (by decide) (by decide) fun k4 p4 k40 k41 hp4 => ?_
    walk_at "gm"
    have pk : ∀ j : Int, 0 ≤ j → j < 4 → ∃ v, idxD (.tuple [.int (1 + k2), .int g, .int (if g < l then g else l), .int (1 + k3)]) (.int j) = some (.int v) := fun j j0 j1 => by
      obtain ⟨x, hx, v, rfl⟩ := pick_tup (xs := [.int (1 + k2), .int g, .int (if g < l then g else l), .int (1 + k3)]) (i := j) (P := fun d => ∃ v, d = .int v) j0 (by simpa using j1) (by
        intro x hx
        simp only [List.mem_cons, List.not_mem_nil, or_false] at hx
        rcases hx with rfl | rfl | rfl | rfl <;> exact ⟨_, rfl⟩)
      exact ⟨v, hx⟩
    refine brP_of (fun h => ?_) fun h => ?_
    · walk_at "gm"
      obtain ⟨v, hv⟩ := pk k1 k10 k11
      refine optP_of hv ?_
      walk_at "gm"
      refine ckP_of (by show (as.map PyData.int).length < LIM; rw [List.length_map]; unfold LIM; omega) ?_
      walk_at "gm"
      exact fin v p4 hp4
    · walk_at "gm"
      refine ckP_of (by show (as.map PyData.int).length < LIM; rw [List.length_map]; unfold LIM; omega) ?_
      walk_at "gm"
      exact fin _ p4 hp4
  · rintro e ⟨p, as, a, b, rfl, hp, hl2, ha, hb⟩
    rw [len_rows] at hl2
    walk_at "gm"
    refine call_take rfl hp (by rw [List.length_map]; omega) (by rw [List.length_map]; omega) fun k2 p2 k20 k21 hp2 => ?_
    rw [List.length_map] at k21
    walk_at "gm"
    exact ⟨k2, as, p2, rfl, ⟨k20, k21, hl2⟩, hp2, rfl⟩
end GL

set_option maxRecDepth 100000
set_option maxHeartbeats 0
namespace GL
open PySem PySem.Spec PyProof.Rows L2 GM
local macro_rules | `(tactic| walk_at "gw") => `(tactic| conv => whnf)
local macro_rules | `(tactic| walk_at "g1") => `(tactic| first | refine optP_of rfl ?_ | (apply envP_of; focus ((try simp only [GM.start, List.map, List.length, List.reduceReplicate, Nat.reduceAdd, Nat.reduceSub, List.cons_append, List.nil_append, GM.put, GM.wb, GM.putR, GM.updE, GM.putF, GM.puts, GM.wipes, GM.get, List.reverse_cons, List.reverse_nil]); exact rfl)) | (refine ckP_of ?_ ?_; exact True.intro) | (refine ckP_of ?_ ?_; exact rfl) | (refine ckP_of ?_ ?_; exact ⟨rfl, rfl⟩) | (refine ckP_of ?_ ?_; exact ⟨True.intro, True.intro⟩) | (refine ckP_of ?_ ?_; exact asg_fr (by assumption) rfl) | (refine ckP_of ?_ ?_; exact ⟨asg_fr (by assumption) rfl, True.intro⟩) | refine brP_t rfl ?_ | refine brP_f rfl ?_ | fail)
local macro_rules | `(tactic| walk_at "gm") => `(tactic| (walk_at "gw"; repeat' (walk_at "g1"; walk_at "gw")))
/-! the law's look at a standing -/
theorem eqv_ints : ∀ a b : List Int, PyData.eqvAll (a.map .int) (b.map .int) = decide (a = b)
  | [], [] => by simp [PyData.eqvAll]
  | [], _ :: _ => by simp [PyData.eqvAll]
  | _ :: _, [] => by simp [PyData.eqvAll]
  | x :: a, y :: b => by
    rw [List.map_cons, List.map_cons, PyData.eqvAll, eqv_int, eqv_ints a b]
    by_cases h : x = y <;> by_cases h2 : a = b <;> simp [h, h2]
theorem eqv_tupI (a b : List Int) : PyData.eqv (tupI a) (tupI b) = decide (a = b) := by
  show PyData.eqv (.tuple (a.map .int)) (.tuple (b.map .int)) = _
  rw [PyData.eqv]
  exact eqv_ints a b
theorem in_rows (Ls : List (List Int)) (L : List Int) : ((Ls.map tupI).any fun y => y.eqv (tupI L)) = decide (L ∈ Ls) := by
  rw [List.any_map]
  cases h : decide (L ∈ Ls) with
  | true => exact List.any_eq_true.mpr ⟨L, of_decide_eq_true h, by simp only [Function.comp, eqv_tupI]; simp⟩
  | false =>
    refine List.any_eq_false.mpr fun x hx => ?_
    simp only [Function.comp, eqv_tupI, decide_eq_true_eq]
    rintro rfl
    exact of_decide_eq_false h hx
theorem lay_rows (Ls : List (List Int)) : PyData.canLayAll0 (Ls.map tupI) = true := by
  induction Ls with
  | nil => rfl
  | cons L Ls ih =>
    have h : PyData.canLay0 (tupI L) = true := SeqAt.canLay_of_shaped (shp_ints L)
    simp [PyData.canLayAll0, h, ih]
theorem depth_list (Ls : List (List Int)) : PyData.depthAll (Ls.map tupI) ≤ 1 := by
  induction Ls with
  | nil => exact Nat.zero_le _
  | cons L Ls ih =>
    have h := PySem.W.depth_rows L
    simp only [List.map_cons, PyData.depthAll]
    have h : (tupI L).depth ≤ 1 := h
    omega
theorem shp_rows (Ls : List (List Int)) : shapedP (.list (Ls.map tupI)) := by
  unfold shapedP SeqAt.shaped
  have h1 : PyData.canLay0 (.list (Ls.map tupI)) = true := by
    simp only [PyData.canLay0]
    exact lay_rows Ls
  have h2 := depth_list Ls
  have h3 : (PyData.list (Ls.map tupI)).depth ≤ 2 := by simp only [PyData.depth]; omega
  rw [h1, Bool.true_and, decide_eq_true_eq]
  omega
theorem okT_tupI (L : List Int) : okT (tupI L) = true := okT_ints L
theorem szD_tupI (L : List Int) : szD (tupI L) = L.length + 1 := szD_ints L
theorem okTs_rows (Ls : List (List Int)) : okTs (Ls.map tupI) = true := okTs_all fun d hd => by
  obtain ⟨L, _, rfl⟩ := List.mem_map.mp hd
  exact okT_tupI L
def lots (n : Nat) : List (List Int) := sortT (allL n)
def letL (cs : List (Int × Int)) (w : List Int) (d : Int) (as : List Int) : List (List Int) := (lots cs.length).filter (letB cs w d as)
theorem lots_mem {n : Nat} {L : List Int} (h : L ∈ lots n) : inN n L ∧ L.length ≤ n := by
  obtain ⟨f, rfl⟩ := all_mem.mp ((sortT_perm _).mem_iff.mp h)
  exact ⟨fun x hx => ⟨(sel_mem.mp hx).1, (sel_mem.mp hx).2.1⟩, sel_len n f⟩
theorem lots_len (n : Nat) : (lots n).length = 2 ^ n := by
  unfold lots
  rw [(sortT_perm _).length_eq]
  unfold allL
  rw [List.length_map, List.length_range]
def slS : FS := valS (fun p : (List (Int × Int) × List Int) × Int × List Int => [.v (bkD p.1.1 p.1.2), .v (stD p.2.1 p.2.2)]) (fun p => ChOk p.1.1 ∧ StOk p.1.1 p.1.2 p.2.1 p.2.2) (fun p => .int (minI (slk p.1.1 p.2.2)))
def ltS : FS := { α := Nat, args := fun n => [.v (.int (n : Int))], pre := fun n => n ≤ 6, post := fun n r us' => r = .o ((lots n).map tupI) ∧ us' = [.v (.int (n : Int))] }
def llS : FS := valS (fun p : (List (Int × Int) × List Int) × Int × List Int => [.v (bkD p.1.1 p.1.2), .v (stD p.2.1 p.2.2)]) (fun p => ChOk p.1.1 ∧ WkOk p.1.2 ∧ StOk p.1.1 p.1.2 p.2.1 p.2.2) (fun p => llD p.1.1 p.1.2 p.2.1 p.2.2)
def nxS : FS := valS (fun p : (List (Int × Int) × List Int) × Int × List Int × List Int => [.v (bkD p.1.1 p.1.2), .v (stD p.2.1 p.2.2.1), .v (tupI p.2.2.2)])
  (fun p => ChOk p.1.1 ∧ WkOk p.1.2 ∧ StOk p.1.1 p.1.2 p.2.1 p.2.2.1) (fun p => nxD p.2.1 p.1.2 p.2.2.1 p.2.2.2)
def letX (cs : List (Int × Int)) (w : List Int) (d : Int) (as : List Int) : PyData → Bool
  | .tuple xs => match intsD xs with
    | some L => letB cs w d as L
    | none => false
  | _ => false
theorem letX_tup (cs : List (Int × Int)) (w : List Int) (d : Int) (as L : List Int) : letX cs w d as (tupI L) = letB cs w d as L := by
  show (match intsD (L.map .int) with | some L => letB cs w d as L | none => false) = _
  rw [ints_some]
def lookS : FS := { α := List PyData × (List (Int × Int) × List Int) × Int × List Int, args := fun a => [.r a.1, .v (bkD a.2.1.1 a.2.1.2), .v (stD a.2.2.1 a.2.2.2)], pre := fun a => TubOk a.1 ∧ ChOk a.2.1.1 ∧ WkOk a.2.1.2 ∧ StOk a.2.1.1 a.2.1.2 a.2.2.1 a.2.2.2, post := fun a r us' => ∃ p, r = .v (.bool true) ∧ TubOk p ∧ us' = [.r p, .v (bkD a.2.1.1 a.2.1.2), .v (stD a.2.2.1 a.2.2.2)] }
def dueQ (cs : List (Int × Int)) (as : List Int) : PyData → Bool
  | .int i => dueF cs as i.toNat
  | _ => false
def rdyQ (cs : List (Int × Int)) (as : List Int) : PyData → Bool
  | .int i => rdyF cs as i.toNat
  | _ => false
def slkQ (cs : List (Int × Int)) (as : List Int) : PyData → PyData
  | .int i => .int (hi cs i.toNat - a0 as i.toNat)
  | d => d
theorem okT_pair2 (n : Nat) (f g : Nat → Bool) (m : Int) : okT (.tuple [.tuple ((selL n f).map .int), .tuple ((selL n g).map .int), .int m]) = true := by
  have a1 := okT_ints (selL n f)
  have a2 := okT_ints (selL n g)
  simp only [okT, okTs] at a1 a2 ⊢
  rw [a1, a2]; rfl
theorem szD_pair2 (n : Nat) (f g : Nat → Bool) (m : Int) (h6 : n ≤ 6) : szD (.tuple [.tuple ((selL n f).map .int), .tuple ((selL n g).map .int), .int m]) ≤ 1000000 := by
  have a1 := szD_ints (selL n f)
  have a2 := szD_ints (selL n g)
  have l1 := sel_len n f
  have l2 := sel_len n g
  simp only [szD, szDs] at a1 a2 ⊢
  omega
theorem ll_eq {cs : List (Int × Int)} {w as : List Int} {d : Int} (hc : ChOk cs) : llD cs w d as = .tuple ((letL cs w d as).map tupI) := by
  unfold llD; rw [lots_law hc]; rfl
theorem let_len (cs : List (Int × Int)) (w : List Int) (d : Int) (as : List Int) (h6 : cs.length ≤ 6) : (letL cs w d as).length ≤ 64 := by
  have hll := lots_len cs.length
  have p6 : 2 ^ cs.length ≤ 2 ^ 6 := Nat.pow_le_pow_right (by omega) h6
  have := List.length_filter_le (letB cs w d as) (lots cs.length)
  unfold letL; omega
theorem let_mem {cs : List (Int × Int)} {w : List Int} {d : Int} {as L : List Int} (h : L ∈ letL cs w d as) : L ∈ lots cs.length := (List.mem_filter.mp h).1
theorem okT_ll {cs : List (Int × Int)} {w as : List Int} {d : Int} : okT (.tuple ((letL cs w d as).map tupI)) = true := by
  rw [okT_tup]; exact okTs_rows _
theorem szD_ll {cs : List (Int × Int)} {w as : List Int} {d : Int} (h6 : cs.length ≤ 6) : szD (.tuple ((letL cs w d as).map tupI)) ≤ 1000000 := by
  have hlen := let_len cs w d as h6
  have a1 : szDs ((letL cs w d as).map tupI) ≤ ((letL cs w d as).map tupI).length * 7 := szDs_all fun x hx => by
    obtain ⟨L, hL, rfl⟩ := List.mem_map.mp hx
    have := (lots_mem (let_mem hL)).2
    rw [szD_tupI]; omega
  rw [List.length_map] at a1
  simp only [szD]
  omega
theorem let_filter (cs : List (Int × Int)) (w : List Int) (d : Int) (as : List Int) : (((lots cs.length).map tupI).filter (letX cs w d as)).map id = (letL cs w d as).map tupI := by
  rw [List.map_id, List.filter_map]
  unfold letL
  congr 1
  exact List.filter_congr fun L _ => letX_tup cs w d as L
theorem let_in {cs : List (Int × Int)} {w as L : List Int} {d : Int} (h : L ∈ lots cs.length) : decide (L ∈ letL cs w d as) = letB cs w d as L := by
  unfold letL
  cases q : letB cs w d as L with
  | true => exact decide_eq_true (List.mem_filter.mpr ⟨h, q⟩)
  | false => exact decide_eq_false fun z => by have := (List.mem_filter.mp z).2; rw [q] at this; cases this
theorem nxA_len (as L : List Int) : (nxA as L).length = as.length := by unfold nxA; simp
theorem okT_st (d : Int) (as : List Int) : okT (stD d as) = true := by
  have := okT_ints as
  unfold stD
  simp only [okT, okTs] at this ⊢
  rw [this]; rfl
theorem szD_st (d : Int) (as : List Int) (h : as.length ≤ 6) : szD (stD d as) ≤ 1000000 := by
  have := szD_ints as
  unfold stD
  simp only [szD, szDs] at this ⊢
  omega
theorem w_l_looked (p : List PyData) (cs : List (Int × Int)) (w : List Int) (d : Int) (as : List Int) (hp : TubOk p) (hc : ChOk cs) (hw : WkOk w) (hs : StOk cs w d as) : wpF (gam [dueS, rdyS, slS, sameT, ltS, letS, llS, takeS, letS, nxS, nxS]) 60 b_l_looked 15 [.r p, .v (bkD cs w), .v (stD d as)]
    (fun r us' => ∃ p, r = .v (.bool true) ∧ TubOk p ∧ us' = [.r p, .v (bkD cs w), .v (stD d as)]) (fun _ _ => False) := by
  have h6 := hc.le
  have h61 : as.length ≤ 6 := by rw [hs.len]; exact h6
  have hpos := List.length_pos_iff.mpr hc.ne
  walk_at "gm"
  refine ckP_of ⟨by rw [List.length_map]; omega, by rw [List.length_map]; unfold LIM; omega⟩ ?_
  walk_at "gm"
  rw [List.length_map, Int.toNat_natCast, hs.len]
  refine ckP_of ⟨⟨True.intro, True.intro⟩, by rw [rngI_length]; unfold LIM; omega⟩ ?_
  refine compP_filter (dueQ cs as) id (fun x hx nx hn => ?_) ?_
  · obtain ⟨i, hx⟩ := List.getElem?_of_mem hx
    obtain ⟨hi2, rfl⟩ := rng_get hx
    rw [Int.zero_add] at hn ⊢
    walk_at "gm"
    refine optP_of (ixa (by rw [hs.len]; exact hi2)) ?_
    walk_at "gm"
    refine optP_of (ixc hi2) ?_
    walk_at "gm"
    have e : dueQ cs as (.int (i : Int)) = decide (a0 as i = GL.hi cs i) := rfl
    rw [e] at hn
    refine brP_of (fun h => ?_) fun h => ?_
    · rw [eqv_int] at h
      rw [if_pos h] at hn
      walk_at "gm"
      exact hn
    · rw [eqv_int] at h
      rw [if_neg (by rw [h]; exact Bool.false_ne_true)] at hn
      walk_at "gm"
      exact hn
  walk_at "gm"
  rw [sel_rng (f := dueF cs as) fun i _ => rfl]
  refine ckP_of ⟨⟨True.intro, True.intro⟩, by rw [rngI_length]; unfold LIM; omega⟩ ?_
  refine compP_filter (rdyQ cs as) id (fun x hx nx hn => ?_) ?_
  · obtain ⟨i, hx⟩ := List.getElem?_of_mem hx
    obtain ⟨hi2, rfl⟩ := rng_get hx
    rw [Int.zero_add] at hn ⊢
    walk_at "gm"
    refine optP_of (ixa (by rw [hs.len]; exact hi2)) ?_
    walk_at "gm"
    refine optP_of (ixc hi2) ?_
    walk_at "gm"
    have e : rdyQ cs as (.int (i : Int)) = leB (lo cs i) (a0 as i) := rfl
    rw [e] at hn
    refine brP_of (fun h => ?_) fun h => ?_
    · rw [if_pos h] at hn
      walk_at "gm"
      exact hn
    · rw [if_neg (by rw [h]; exact Bool.false_ne_true)] at hn
      walk_at "gm"
      exact hn
  walk_at "gm"
  rw [sel_rng (f := rdyF cs as) fun i _ => rfl]
  refine ckP_of ⟨⟨True.intro, True.intro⟩, by rw [rngI_length]; unfold LIM; omega⟩ ?_
  refine compP_map (slkQ cs as) (fun x hx nx hn => ?_) ?_
  · obtain ⟨i, hx⟩ := List.getElem?_of_mem hx
    obtain ⟨hi2, rfl⟩ := rng_get hx
    rw [Int.zero_add] at hn ⊢
    walk_at "gm"
    refine optP_of (ixc hi2) ?_
    walk_at "gm"
    refine optP_of (ixa (by rw [hs.len]; exact hi2)) ?_
    walk_at "gm"
    exact hn
  have es : (rngI 0 cs.length).map (slkQ cs as) = (slk cs as).map .int := by
    rw [rng_map, List.map_map]
    unfold slk
    rw [List.map_map]; rfl
  rw [es]
  walk_at "gm"
  refine optP_of (bi_minL _) ?_
  refine ckP_of ?_ ?_
  · show 0 < ((slk cs as).map PyData.int).length
    simp [slk]; omega
  walk_at "gm"
  refine call_val (args := fun p : (List (Int × Int) × List Int) × Int × List Int => [.v (bkD p.1.1 p.1.2), .v (stD p.2.1 p.2.2)]) rfl ((cs, w), d, as) rfl ⟨hc, hs⟩ ?_
  walk_at "gm"
  refine call_val (args := fun p : (List (Int × Int) × List Int) × Int × List Int => [.v (bkD p.1.1 p.1.2), .v (stD p.2.1 p.2.2)]) rfl ((cs, w), d, as) rfl ⟨hc, hs⟩ ?_
  walk_at "gm"
  refine call_val (args := fun p : (List (Int × Int) × List Int) × Int × List Int => [.v (bkD p.1.1 p.1.2), .v (stD p.2.1 p.2.2)]) rfl ((cs, w), d, as) rfl ⟨hc, hs⟩ ?_
  walk_at "gm"
  have l1 := sel_len cs.length (dueF cs as)
  have l2 := sel_len cs.length (rdyF cs as)
  rw [show dueL cs as = selL cs.length (dueF cs as) by with_unfolding_all rfl, show rdyL cs as = selL cs.length (rdyF cs as) by with_unfolding_all rfl]
  refine call_sameT rfl rfl (okT_pair2 _ _ _ _) (szD_pair2 _ _ _ _ h6) ?_
  walk_at "gm"
  refine callP_of ltS rfl cs.length (by show [U.v (.int ((as.map PyData.int).length : Int))] = _; rw [List.length_map, hs.len]; rfl) h6 ?_ fun _ _ h => h.elim
  rintro r us' ⟨rfl, rfl⟩
  walk_at "gm"
  have hll := lots_len cs.length
  have p6 : 2 ^ cs.length ≤ 2 ^ 6 := Nat.pow_le_pow_right (by omega) h6
  refine ckP_of ⟨⟨True.intro, True.intro⟩, by rw [List.length_map]; unfold LIM; omega⟩ ?_
  refine compP_filter (letX cs w d as) id (fun x hx nx hn => ?_) ?_
  · obtain ⟨L, hL, rfl⟩ := List.mem_map.mp hx
    obtain ⟨m1, m2⟩ := lots_mem hL
    rw [letX_tup] at hn
    walk_at "gm"
    refine call_val (args := fun p : (List (Int × Int) × List Int) × Int × List Int × List Int => [.v (bkD p.1.1 p.1.2), .v (stD p.2.1 p.2.2.1), .v (tupI p.2.2.2)]) rfl ((cs, w), d, as, L) rfl ⟨hc, hw, hs, m1, by show L.length ≤ 6; omega⟩ ?_
    walk_at "gm"
    refine brP_of (fun h => ?_) fun h => ?_
    · rw [if_pos h] at hn
      walk_at "gm"
      exact hn
    · rw [if_neg (by rw [h]; exact Bool.false_ne_true)] at hn
      walk_at "gm"
      exact hn
  rw [let_filter]
  have hlen := let_len cs w d as h6
  walk_at "gm"
  refine call_val (args := fun p : (List (Int × Int) × List Int) × Int × List Int => [.v (bkD p.1.1 p.1.2), .v (stD p.2.1 p.2.2)]) rfl ((cs, w), d, as) rfl ⟨hc, hw, hs⟩ ?_
  walk_at "gm"
  rw [ll_eq hc]
  refine call_sameT rfl rfl okT_ll (szD_ll h6) ?_
  walk_at "gm"
  have hq := hp
  generalize p = q at hq
  refine brP_of (fun h9 => ?_) fun h9 => ?_
  · walk_at "gm"
    have hxs : ∀ x ∈ (lots cs.length).map tupI, ∃ L ∈ lots cs.length, x = tupI L := fun x hx => by
      obtain ⟨L, hL, rfl⟩ := List.mem_map.mp hx
      exact ⟨L, hL, rfl⟩
    refine forP_inv (fun i e => ∃ a b, e = [some (.r q), some (.v (bkD cs w)), some (.v (stD d as)), some (.v (.int d)), some (.v (.tuple (as.map .int))), some (.v (.list (rngI 0 cs.length))), some (.v (.tuple ((selL cs.length (dueF cs as)).map .int))), none, some (.v (.tuple ((selL cs.length (rdyF cs as)).map .int))), some (.v (.int (minI (slk cs as)))), some (.v (.list ((lots cs.length).map tupI))), some (.o ((letL cs w d as).map tupI)), a, none, b] ∧ Fre a ∧ Fre b) ⟨_, _, rfl, .no, .no⟩ ?_ ?_
    · rintro i x e nx hx ⟨a, b, rfl, ha, hb⟩ hn
      obtain ⟨L, hL, rfl⟩ := hxs x (List.mem_of_getElem? hx)
      obtain ⟨m1, m2⟩ := lots_mem hL
      walk_at "gm"
      refine call_val (args := fun p : (List (Int × Int) × List Int) × Int × List Int × List Int => [.v (bkD p.1.1 p.1.2), .v (stD p.2.1 p.2.2.1), .v (tupI p.2.2.2)]) rfl ((cs, w), d, as, L) rfl ⟨hc, hw, hs, m1, by show L.length ≤ 6; omega⟩ ?_
      walk_at "gm"
      refine ckP_of ⟨shp_ints L, shp_rows _⟩ ?_
      walk_at "gm"
      rw [in_rows, let_in hL]
      refine brP_f (by rw [PyData.eqv]; cases letB cs w d as L <;> rfl) ?_
      walk_at "gm"
      exact hn _ ⟨_, _, rfl, .v _, .v _⟩
    · rintro e ⟨a, b, rfl, ha, hb⟩
      clear hxs
      walk_at "gm"
      refine brP_of (fun hl => ?_) fun hl => ?_
      · have hl : (0 : Int) < (((letL cs w d as).map tupI).length : Int) := of_decide_eq_true hl
        rw [List.length_map] at hl
        walk_at "gm"
        refine ckP_of ⟨by decide, by decide⟩ ?_
        walk_at "gm"
        refine ckP_of ⟨⟨True.intro, True.intro⟩, by rw [rngI_length]; decide⟩ ?_
        refine compP_gather (fun x => ∃ L ∈ letL cs w d as, x = tupI L) (fun e => ∃ q, e = [some (.r q), some (.v (bkD cs w)), some (.v (stD d as)), some (.v (.int d)), some (.v (.tuple (as.map .int))), some (.v (.list (rngI 0 cs.length))), some (.v (.tuple ((selL cs.length (dueF cs as)).map .int))), none, some (.v (.tuple ((selL cs.length (rdyF cs as)).map .int))), some (.v (.int (minI (slk cs as)))), some (.v (.list ((lots cs.length).map tupI))), some (.o ((letL cs w d as).map tupI)), a, none, b] ∧ TubOk q) ⟨q, rfl, hq⟩ ?_ ?_
        · rintro i x e nx hx ⟨q, rfl, hq⟩ hn
          walk_at "gm"
          refine call_take rfl hq (by rw [List.length_map]; omega) (by rw [List.length_map]; omega) fun k q2 k0 k1 hq2 => ?_
          rw [List.length_map] at k1
          walk_at "gm"
          have hk : k.toNat < (letL cs w d as).length := by omega
          refine optP_of (idx_list k0 (show ((letL cs w d as).map tupI)[k.toNat]? = some (tupI (letL cs w d as)[k.toNat]) by simp [hk])) ?_
          walk_at "gm"
          exact hn _ _ ⟨_, List.getElem_mem hk, rfl⟩ ⟨_, rfl, hq2⟩
        · rintro xs e _ hxs ⟨q, rfl, hq⟩
          walk_at "gm"
          refine forP_inv (fun i e => ∃ q a b, e = [some (.r q), some (.v (bkD cs w)), some (.v (stD d as)), some (.v (.int d)), some (.v (.tuple (as.map .int))), some (.v (.list (rngI 0 cs.length))), some (.v (.tuple ((selL cs.length (dueF cs as)).map .int))), none, some (.v (.tuple ((selL cs.length (rdyF cs as)).map .int))), some (.v (.int (minI (slk cs as)))), some (.v (.list ((lots cs.length).map tupI))), some (.o ((letL cs w d as).map tupI)), a, none, b] ∧ TubOk q ∧ Fre a ∧ Fre b) ⟨_, _, _, rfl, hq, ha, hb⟩ ?_ ?_
          · rintro i x e nx hx ⟨q, a, b, rfl, hq, ha, hb⟩ hn
            obtain ⟨L, hL, rfl⟩ := hxs x (List.mem_of_getElem? hx)
            obtain ⟨m1, m2⟩ := lots_mem (let_mem hL)
            walk_at "gm"
            refine call_val (args := fun p : (List (Int × Int) × List Int) × Int × List Int × List Int => [.v (bkD p.1.1 p.1.2), .v (stD p.2.1 p.2.2.1), .v (tupI p.2.2.2)]) rfl ((cs, w), d, as, L) rfl ⟨hc, hw, hs⟩ ?_
            walk_at "gm"
            refine call_val (args := fun p : (List (Int × Int) × List Int) × Int × List Int × List Int => [.v (bkD p.1.1 p.1.2), .v (stD p.2.1 p.2.2.1), .v (tupI p.2.2.2)]) rfl ((cs, w), d, as, L) rfl ⟨hc, hw, hs⟩ ?_
            walk_at "gm"
            refine call_sameT rfl rfl (okT_st _ _) (szD_st _ _ (by rw [nxA_len]; exact h61)) ?_
            walk_at "gm"
            exact hn _ ⟨_, _, _, rfl, hq, .v _, hb⟩
          · rintro e ⟨q, a, b, rfl, hq, ha, hb⟩
            walk_at "gm"
            exact ⟨_, rfl, hq, rfl⟩
      · walk_at "gm"
        have hxs : ∀ x ∈ ([] : List PyData), ∃ L ∈ letL cs w d as, x = tupI L := fun x hx => by cases hx
        refine forP_inv (fun i e => ∃ q a b, e = [some (.r q), some (.v (bkD cs w)), some (.v (stD d as)), some (.v (.int d)), some (.v (.tuple (as.map .int))), some (.v (.list (rngI 0 cs.length))), some (.v (.tuple ((selL cs.length (dueF cs as)).map .int))), none, some (.v (.tuple ((selL cs.length (rdyF cs as)).map .int))), some (.v (.int (minI (slk cs as)))), some (.v (.list ((lots cs.length).map tupI))), some (.o ((letL cs w d as).map tupI)), a, none, b] ∧ TubOk q ∧ Fre a ∧ Fre b) ⟨_, _, _, rfl, hq, ha, hb⟩ ?_ ?_
        · rintro i x e nx hx ⟨q, a, b, rfl, hq, ha, hb⟩ hn
          obtain ⟨L, hL, rfl⟩ := hxs x (List.mem_of_getElem? hx)
          obtain ⟨m1, m2⟩ := lots_mem (let_mem hL)
          walk_at "gm"
          refine call_val (args := fun p : (List (Int × Int) × List Int) × Int × List Int × List Int => [.v (bkD p.1.1 p.1.2), .v (stD p.2.1 p.2.2.1), .v (tupI p.2.2.2)]) rfl ((cs, w), d, as, L) rfl ⟨hc, hw, hs⟩ ?_
          walk_at "gm"
          refine call_val (args := fun p : (List (Int × Int) × List Int) × Int × List Int × List Int => [.v (bkD p.1.1 p.1.2), .v (stD p.2.1 p.2.2.1), .v (tupI p.2.2.2)]) rfl ((cs, w), d, as, L) rfl ⟨hc, hw, hs⟩ ?_
          walk_at "gm"
          refine call_sameT rfl rfl (okT_st _ _) (szD_st _ _ (by rw [nxA_len]; exact h61)) ?_
          walk_at "gm"
          exact hn _ ⟨_, _, _, rfl, hq, .v _, hb⟩
        · rintro e ⟨q, a, b, rfl, hq, ha, hb⟩
          walk_at "gm"
          exact ⟨_, rfl, hq, rfl⟩
  · walk_at "gm"
    have hlp : 1 ≤ 2 ^ cs.length := Nat.one_le_two_pow
    refine ckP_of ⟨by decide, by decide⟩ ?_
    walk_at "gm"
    refine ckP_of ⟨⟨True.intro, True.intro⟩, by rw [rngI_length]; decide⟩ ?_
    refine compP_gather (fun x => ∃ L ∈ lots cs.length, x = tupI L) (fun e => ∃ q, e = [some (.r q), some (.v (bkD cs w)), some (.v (stD d as)), some (.v (.int d)), some (.v (.tuple (as.map .int))), some (.v (.list (rngI 0 cs.length))), some (.v (.tuple ((selL cs.length (dueF cs as)).map .int))), none, some (.v (.tuple ((selL cs.length (rdyF cs as)).map .int))), some (.v (.int (minI (slk cs as)))), some (.v (.list ((lots cs.length).map tupI))), some (.o ((letL cs w d as).map tupI)), none, none, none] ∧ TubOk q) ⟨q, rfl, hq⟩ ?_ ?_
    · rintro i x e nx hx ⟨q, rfl, hq⟩ hn
      walk_at "gm"
      refine call_take rfl hq (by rw [List.length_map]; omega) (by rw [List.length_map]; omega) fun k q2 k0 k1 hq2 => ?_
      rw [List.length_map] at k1
      walk_at "gm"
      have hk : k.toNat < (lots cs.length).length := by omega
      refine optP_of (idx_list k0 (show ((lots cs.length).map tupI)[k.toNat]? = some (tupI (lots cs.length)[k.toNat]) by simp [hk])) ?_
      walk_at "gm"
      exact hn _ _ ⟨_, List.getElem_mem hk, rfl⟩ ⟨_, rfl, hq2⟩
    rintro xs e _ hxs ⟨q, rfl, hq⟩
    walk_at "gm"
    refine forP_inv (fun i e => ∃ a b, e = [some (.r q), some (.v (bkD cs w)), some (.v (stD d as)), some (.v (.int d)), some (.v (.tuple (as.map .int))), some (.v (.list (rngI 0 cs.length))), some (.v (.tuple ((selL cs.length (dueF cs as)).map .int))), none, some (.v (.tuple ((selL cs.length (rdyF cs as)).map .int))), some (.v (.int (minI (slk cs as)))), some (.v (.list ((lots cs.length).map tupI))), some (.o ((letL cs w d as).map tupI)), a, none, b] ∧ Fre a ∧ Fre b) ⟨_, _, rfl, .no, .no⟩ ?_ ?_
    · rintro i x e nx hx ⟨a, b, rfl, ha, hb⟩ hn
      obtain ⟨L, hL, rfl⟩ := hxs x (List.mem_of_getElem? hx)
      obtain ⟨m1, m2⟩ := lots_mem hL
      walk_at "gm"
      refine call_val (args := fun p : (List (Int × Int) × List Int) × Int × List Int × List Int => [.v (bkD p.1.1 p.1.2), .v (stD p.2.1 p.2.2.1), .v (tupI p.2.2.2)]) rfl ((cs, w), d, as, L) rfl ⟨hc, hw, hs, m1, by show L.length ≤ 6; omega⟩ ?_
      walk_at "gm"
      refine ckP_of ⟨shp_ints L, shp_rows _⟩ ?_
      walk_at "gm"
      rw [in_rows, let_in hL]
      refine brP_f (by rw [PyData.eqv]; cases letB cs w d as L <;> rfl) ?_
      walk_at "gm"
      exact hn _ ⟨_, _, rfl, .v _, .v _⟩
    · rintro e ⟨a, b, rfl, ha, hb⟩
      clear hxs
      walk_at "gm"
      refine brP_of (fun hl => ?_) fun hl => ?_
      · have hl : (0 : Int) < (((letL cs w d as).map tupI).length : Int) := of_decide_eq_true hl
        rw [List.length_map] at hl
        walk_at "gm"
        refine ckP_of ⟨by decide, by decide⟩ ?_
        walk_at "gm"
        refine ckP_of ⟨⟨True.intro, True.intro⟩, by rw [rngI_length]; decide⟩ ?_
        refine compP_gather (fun x => ∃ L ∈ letL cs w d as, x = tupI L) (fun e => ∃ q, e = [some (.r q), some (.v (bkD cs w)), some (.v (stD d as)), some (.v (.int d)), some (.v (.tuple (as.map .int))), some (.v (.list (rngI 0 cs.length))), some (.v (.tuple ((selL cs.length (dueF cs as)).map .int))), none, some (.v (.tuple ((selL cs.length (rdyF cs as)).map .int))), some (.v (.int (minI (slk cs as)))), some (.v (.list ((lots cs.length).map tupI))), some (.o ((letL cs w d as).map tupI)), a, none, b] ∧ TubOk q) ⟨q, rfl, hq⟩ ?_ ?_
        · rintro i x e nx hx ⟨q, rfl, hq⟩ hn
          walk_at "gm"
          refine call_take rfl hq (by rw [List.length_map]; omega) (by rw [List.length_map]; omega) fun k q2 k0 k1 hq2 => ?_
          rw [List.length_map] at k1
          walk_at "gm"
          have hk : k.toNat < (letL cs w d as).length := by omega
          refine optP_of (idx_list k0 (show ((letL cs w d as).map tupI)[k.toNat]? = some (tupI (letL cs w d as)[k.toNat]) by simp [hk])) ?_
          walk_at "gm"
          exact hn _ _ ⟨_, List.getElem_mem hk, rfl⟩ ⟨_, rfl, hq2⟩
        · rintro xs e _ hxs ⟨q, rfl, hq⟩
          walk_at "gm"
          refine forP_inv (fun i e => ∃ q a b, e = [some (.r q), some (.v (bkD cs w)), some (.v (stD d as)), some (.v (.int d)), some (.v (.tuple (as.map .int))), some (.v (.list (rngI 0 cs.length))), some (.v (.tuple ((selL cs.length (dueF cs as)).map .int))), none, some (.v (.tuple ((selL cs.length (rdyF cs as)).map .int))), some (.v (.int (minI (slk cs as)))), some (.v (.list ((lots cs.length).map tupI))), some (.o ((letL cs w d as).map tupI)), a, none, b] ∧ TubOk q ∧ Fre a ∧ Fre b) ⟨_, _, _, rfl, hq, ha, hb⟩ ?_ ?_
          · rintro i x e nx hx ⟨q, a, b, rfl, hq, ha, hb⟩ hn
            obtain ⟨L, hL, rfl⟩ := hxs x (List.mem_of_getElem? hx)
            obtain ⟨m1, m2⟩ := lots_mem (let_mem hL)
            walk_at "gm"
            refine call_val (args := fun p : (List (Int × Int) × List Int) × Int × List Int × List Int => [.v (bkD p.1.1 p.1.2), .v (stD p.2.1 p.2.2.1), .v (tupI p.2.2.2)]) rfl ((cs, w), d, as, L) rfl ⟨hc, hw, hs⟩ ?_
            walk_at "gm"
            refine call_val (args := fun p : (List (Int × Int) × List Int) × Int × List Int × List Int => [.v (bkD p.1.1 p.1.2), .v (stD p.2.1 p.2.2.1), .v (tupI p.2.2.2)]) rfl ((cs, w), d, as, L) rfl ⟨hc, hw, hs⟩ ?_
            walk_at "gm"
            refine call_sameT rfl rfl (okT_st _ _) (szD_st _ _ (by rw [nxA_len]; exact h61)) ?_
            walk_at "gm"
            exact hn _ ⟨_, _, _, rfl, hq, .v _, hb⟩
          · rintro e ⟨q, a, b, rfl, hq, ha, hb⟩
            walk_at "gm"
            exact ⟨_, rfl, hq, rfl⟩
      · walk_at "gm"
        have hxs : ∀ x ∈ ([] : List PyData), ∃ L ∈ letL cs w d as, x = tupI L := fun x hx => by cases hx
        refine forP_inv (fun i e => ∃ q a b, e = [some (.r q), some (.v (bkD cs w)), some (.v (stD d as)), some (.v (.int d)), some (.v (.tuple (as.map .int))), some (.v (.list (rngI 0 cs.length))), some (.v (.tuple ((selL cs.length (dueF cs as)).map .int))), none, some (.v (.tuple ((selL cs.length (rdyF cs as)).map .int))), some (.v (.int (minI (slk cs as)))), some (.v (.list ((lots cs.length).map tupI))), some (.o ((letL cs w d as).map tupI)), a, none, b] ∧ TubOk q ∧ Fre a ∧ Fre b) ⟨_, _, _, rfl, hq, ha, hb⟩ ?_ ?_
        · rintro i x e nx hx ⟨q, a, b, rfl, hq, ha, hb⟩ hn
          obtain ⟨L, hL, rfl⟩ := hxs x (List.mem_of_getElem? hx)
          obtain ⟨m1, m2⟩ := lots_mem (let_mem hL)
          walk_at "gm"
          refine call_val (args := fun p : (List (Int × Int) × List Int) × Int × List Int × List Int => [.v (bkD p.1.1 p.1.2), .v (stD p.2.1 p.2.2.1), .v (tupI p.2.2.2)]) rfl ((cs, w), d, as, L) rfl ⟨hc, hw, hs⟩ ?_
          walk_at "gm"
          refine call_val (args := fun p : (List (Int × Int) × List Int) × Int × List Int × List Int => [.v (bkD p.1.1 p.1.2), .v (stD p.2.1 p.2.2.1), .v (tupI p.2.2.2)]) rfl ((cs, w), d, as, L) rfl ⟨hc, hw, hs⟩ ?_
          walk_at "gm"
          refine call_sameT rfl rfl (okT_st _ _) (szD_st _ _ (by rw [nxA_len]; exact h61)) ?_
          walk_at "gm"
          exact hn _ ⟨_, _, _, rfl, hq, .v _, hb⟩
        · rintro e ⟨q, a, b, rfl, hq, ha, hb⟩
          walk_at "gm"
          exact ⟨_, rfl, hq, rfl⟩
end GL

set_option maxRecDepth 100000
set_option maxHeartbeats 0
namespace GL
open PySem PySem.Spec PyProof.Rows L2 GM
local macro_rules | `(tactic| walk_at "gw") => `(tactic| conv => whnf)
local macro_rules | `(tactic| walk_at "g1") => `(tactic| first | refine optP_of rfl ?_ | (apply envP_of; focus ((try simp only [GM.start, List.map, List.length, List.reduceReplicate, Nat.reduceAdd, Nat.reduceSub, List.cons_append, List.nil_append, GM.put, GM.wb, GM.putR, GM.updE, GM.putF, GM.puts, GM.wipes, GM.get, List.reverse_cons, List.reverse_nil]); exact rfl)) | (refine ckP_of ?_ ?_; exact True.intro) | (refine ckP_of ?_ ?_; exact rfl) | (refine ckP_of ?_ ?_; exact ⟨rfl, rfl⟩) | (refine ckP_of ?_ ?_; exact ⟨True.intro, True.intro⟩) | (refine ckP_of ?_ ?_; exact asg_fr (by assumption) rfl) | (refine ckP_of ?_ ?_; exact ⟨asg_fr (by assumption) rfl, True.intro⟩) | refine brP_t rfl ?_ | refine brP_f rfl ?_ | fail)
local macro_rules | `(tactic| walk_at "gm") => `(tactic| (walk_at "gw"; repeat' (walk_at "g1"; walk_at "gw")))
/-! by hand -/
def frS : FS := valS (fun p : List (Int × Int) × List Int => [.v (bkD p.1 p.2)]) (fun p => ChOk p.1) (fun p => stD 0 (p.1.map fun _ => 1))
def asS : FS := valS (fun p : List (Int × Int) × List Int => [.v (bkD p.1 p.2)]) (fun p => ChOk p.1 ∧ WkOk p.2 ∧ PB p.1) (fun p => allD p.1 p.2)
def bS : FS := { α := Unit, args := fun _ => [], pre := fun _ => True, post := fun _ r us' => r = .v (.bool true) ∧ us' = [] }
abbrev hC : List (Int × Int) := [(1, 3), (2, 4)]
abbrev hW : List Int := [1, 0, 1]
abbrev pC : List (Int × Int) := [(1, 2), (1, 4), (1, 4)]
abbrev pW : List Int := [1]
theorem ch_home : ChOk hC := ⟨by simp, by decide, by decide⟩
theorem wk_home : WkOk hW := ⟨by simp, by decide, by decide⟩
theorem ch_pair : ChOk pC := ⟨by simp, by decide, by decide⟩
theorem wk_pair : WkOk pW := ⟨by simp, by decide, by decide⟩
theorem ch_one : ChOk [(1, 2)] := ⟨by simp, by decide, by decide⟩
theorem wk_one : WkOk [0, 1] := ⟨by simp, by decide, by decide⟩
theorem st_home {d a b : Int} (h0 : 0 ≤ d) (h1 : d < 3) : StOk hC hW d [a, b] := ⟨h0, h1, rfl⟩
theorem st_pair {a b c : Int} : StOk pC pW 0 [a, b, c] := ⟨by decide, by decide, rfl⟩
theorem ll1 : letL pC pW 0 [1, 1, 1] = [[], [0], [1], [2]] := by decide +kernel
theorem ll2 : letL hC hW 1 [3, 1] = [] := by decide +kernel
theorem ll3 : letL hC hW 1 [2, 3] = [[]] := by decide +kernel
theorem lt1 : letB hC hW 0 [3, 2] [1] = false := by decide +kernel
theorem lt2 : letB hC hW 2 [3, 4] [0] = false := by decide +kernel
theorem lt3 : letB hC hW 2 [3, 2] [0] = true := by decide +kernel
theorem d1 : dueL hC [3, 2] = [0] := by decide +kernel
theorem r1 : rdyL hC [3, 1] = [0] := by decide +kernel
theorem s1 : minI (slk hC [1, 1]) = 2 := by decide +kernel
theorem n1 : nxD 0 pW [1, 3, 2] [1] = stD 0 [2, 1, 3] := by
  unfold nxD
  rw [show nxA [1, 3, 2] [1] = [2, 1, 3] by decide +kernel]; rfl
theorem n2 : nxD 2 hW [3, 2] [0] = stD 0 [1, 3] := by
  unfold nxD
  rw [show nxA [3, 2] [0] = [1, 3] by decide +kernel]; rfl
theorem a1 : stAll [(1, 2)] 2 = [stD 0 [1], stD 0 [2], stD 1 [1], stD 1 [2]] := by
  unfold stAll
  rw [show allR [(1, 2)] = [[1], [2]] by decide +kernel]; rfl
theorem w_l_named : wpF (gam [frS, dueS, rdyS, slS, asS, sameT, llS, nxS, letS]) 60 b_l_named 3 [] (fun r us' => r = .v (.bool true) ∧ us' = []) (fun _ _ => False) := by
  walk_at "gm"
  refine call_val (args := fun p : List (Int × Int) × List Int => [.v (bkD p.1 p.2)]) rfl (hC, hW) rfl ch_home ?_
  walk_at "gm"
  refine call_due (cs := hC) (w := hW) (as := [3, 2]) (d := 0) rfl ch_home (st_home (by decide) (by decide)) ?_
  walk_at "gm"
  refine call_rdy (cs := hC) (w := hW) (as := [3, 1]) (d := 0) rfl ch_home (st_home (by decide) (by decide)) ?_
  walk_at "gm"
  refine call_val (args := fun p : (List (Int × Int) × List Int) × Int × List Int => [.v (bkD p.1.1 p.1.2), .v (stD p.2.1 p.2.2)]) rfl ((hC, hW), 0, [1, 1]) rfl ⟨ch_home, st_home (by decide) (by decide)⟩ ?_
  simp only [d1, r1, s1]
  walk_at "gm"
  refine call_sameT rfl rfl (by decide +kernel) (by decide +kernel) ?_
  walk_at "gm"
  refine call_val (args := fun p : List (Int × Int) × List Int => [.v (bkD p.1 p.2)]) rfl ([(1, 2)], [0, 1]) rfl ⟨ch_one, wk_one, PB_small ch_one (by decide)⟩ ?_
  rw [show allD [(1, 2)] [0, 1] = .tuple [stD 0 [1], stD 0 [2], stD 1 [1], stD 1 [2]] by show PyData.tuple (stAll [(1, 2)] 2) = _; rw [a1]]
  walk_at "gm"
  refine call_sameT rfl rfl (by decide +kernel) (by decide +kernel) ?_
  walk_at "gm"
  refine call_val (args := fun p : (List (Int × Int) × List Int) × Int × List Int => [.v (bkD p.1.1 p.1.2), .v (stD p.2.1 p.2.2)]) rfl ((pC, pW), 0, [1, 1, 1]) rfl ⟨ch_pair, wk_pair, st_pair⟩ ?_
  rw [show llD pC pW 0 [1, 1, 1] = .tuple ([[], [0], [1], [2]].map tupI) by rw [ll_eq ch_pair, ll1]]
  walk_at "gm"
  refine call_val (args := fun p : (List (Int × Int) × List Int) × Int × List Int × List Int => [.v (bkD p.1.1 p.1.2), .v (stD p.2.1 p.2.2.1), .v (tupI p.2.2.2)]) rfl ((pC, pW), 0, [1, 3, 2], [1]) rfl ⟨ch_pair, wk_pair, st_pair⟩ ?_
  rw [n1]
  walk_at "gm"
  refine call_sameT rfl rfl (by decide +kernel) (by decide +kernel) ?_
  walk_at "gm"
  refine call_val (args := fun p : (List (Int × Int) × List Int) × Int × List Int × List Int => [.v (bkD p.1.1 p.1.2), .v (stD p.2.1 p.2.2.1), .v (tupI p.2.2.2)]) rfl ((hC, hW), 0, [3, 2], [1]) rfl ⟨ch_home, wk_home, st_home (by decide) (by decide), by unfold inN; decide, by decide⟩ ?_
  rw [lt1]
  walk_at "gm"
  refine call_val (args := fun p : (List (Int × Int) × List Int) × Int × List Int => [.v (bkD p.1.1 p.1.2), .v (stD p.2.1 p.2.2)]) rfl ((hC, hW), 1, [3, 1]) rfl ⟨ch_home, wk_home, st_home (by decide) (by decide)⟩ ?_
  rw [show llD hC hW 1 [3, 1] = .tuple [] by rw [ll_eq ch_home, ll2]; rfl]
  walk_at "gm"
  refine call_sameT rfl rfl (by decide +kernel) (by decide +kernel) ?_
  walk_at "gm"
  refine call_val (args := fun p : (List (Int × Int) × List Int) × Int × List Int => [.v (bkD p.1.1 p.1.2), .v (stD p.2.1 p.2.2)]) rfl ((hC, hW), 1, [2, 3]) rfl ⟨ch_home, wk_home, st_home (by decide) (by decide)⟩ ?_
  rw [show llD hC hW 1 [2, 3] = .tuple [.tuple []] by rw [ll_eq ch_home, ll3]; rfl]
  walk_at "gm"
  refine call_sameT rfl rfl (by decide +kernel) (by decide +kernel) ?_
  walk_at "gm"
  refine call_val (args := fun p : (List (Int × Int) × List Int) × Int × List Int × List Int => [.v (bkD p.1.1 p.1.2), .v (stD p.2.1 p.2.2.1), .v (tupI p.2.2.2)]) rfl ((hC, hW), 2, [3, 4], [0]) rfl ⟨ch_home, wk_home, st_home (by decide) (by decide), by unfold inN; decide, by decide⟩ ?_
  rw [lt2]
  walk_at "gm"
  refine call_val (args := fun p : (List (Int × Int) × List Int) × Int × List Int × List Int => [.v (bkD p.1.1 p.1.2), .v (stD p.2.1 p.2.2.1), .v (tupI p.2.2.2)]) rfl ((hC, hW), 2, [3, 2], [0]) rfl ⟨ch_home, wk_home, st_home (by decide) (by decide), by unfold inN; decide, by decide⟩ ?_
  rw [lt3]
  walk_at "gm"
  refine call_val (args := fun p : (List (Int × Int) × List Int) × Int × List Int × List Int => [.v (bkD p.1.1 p.1.2), .v (stD p.2.1 p.2.2.1), .v (tupI p.2.2.2)]) rfl ((hC, hW), 2, [3, 2], [0]) rfl ⟨ch_home, wk_home, st_home (by decide) (by decide)⟩ ?_
  rw [n2]
  walk_at "gm"
  refine call_sameT rfl rfl (by decide +kernel) (by decide +kernel) ?_
  walk_at "gm"
  exact ⟨rfl, rfl⟩
end GL

set_option maxRecDepth 100000
set_option maxHeartbeats 0
namespace GL
open PySem PySem.Spec PyProof.Rows L2 GM
local macro_rules | `(tactic| walk_at "gw") => `(tactic| conv => whnf)
local macro_rules | `(tactic| walk_at "g1") => `(tactic| first | refine optP_of rfl ?_ | (apply envP_of; focus ((try simp only [GM.start, List.map, List.length, List.reduceReplicate, Nat.reduceAdd, Nat.reduceSub, List.cons_append, List.nil_append, GM.put, GM.wb, GM.putR, GM.updE, GM.putF, GM.puts, GM.wipes, GM.get, List.reverse_cons, List.reverse_nil]); exact rfl)) | (refine ckP_of ?_ ?_; exact True.intro) | (refine ckP_of ?_ ?_; exact rfl) | (refine ckP_of ?_ ?_; exact ⟨rfl, rfl⟩) | (refine ckP_of ?_ ?_; exact ⟨True.intro, True.intro⟩) | (refine ckP_of ?_ ?_; exact asg_fr (by assumption) rfl) | (refine ckP_of ?_ ?_; exact ⟨asg_fr (by assumption) rfl, True.intro⟩) | refine brP_t rfl ?_ | refine brP_f rfl ?_ | fail)
local macro_rules | `(tactic| walk_at "gm") => `(tactic| (walk_at "gw"; repeat' (walk_at "g1"; walk_at "gw")))
/-! the law -/
theorem st_mem {cs : List (Int × Int)} {w : List Int} {x : PyData} (h : x ∈ stAll cs w.length) : ∃ d as, x = stD d as ∧ StOk cs w d as := by
  obtain ⟨d, hd, h⟩ := List.mem_flatMap.mp h
  obtain ⟨r, hr, rfl⟩ := List.mem_map.mp h
  have := List.mem_range.mp hd
  exact ⟨d, r, rfl, ⟨by omega, by omega, allR_mem hr⟩⟩
theorem st_len {cs : List (Int × Int)} {w : List Int} : (stAll cs w.length).length = w.length * (allR cs).length := by
  unfold stAll
  rw [List.length_flatMap]
  simp only [List.length_map]
  rw [List.map_const', List.sum_replicate_nat, List.length_range]
theorem st_bound {cs : List (Int × Int)} {w : List Int} (hc : ChOk cs) (hw : WkOk w) (hb : PB cs) : 1 ≤ (stAll cs w.length).length ∧ (stAll cs w.length).length ≤ 14000 := by
  rw [st_len]
  have h1 := List.length_pos_iff.mpr hw.ne
  have h2 : 1 ≤ (allR cs).length := allR_pre cs hc 0
  have h3 := hb cs.length (Nat.le_refl _)
  rw [List.take_length] at h3
  have h4 := hw.le
  exact ⟨Nat.mul_pos h1 h2, Nat.le_trans (Nat.mul_le_mul h4 h3) (by decide)⟩
theorem okT_all (cs : List (Int × Int)) (w : List Int) : okT (allD cs w) = true := by
  show okT (.tuple (stAll cs w.length)) = true
  rw [okT_tup]
  exact okTs_all fun x hx => by
    obtain ⟨d, as, rfl, _⟩ := st_mem hx
    exact okT_st d as
theorem szD_all {cs : List (Int × Int)} {w : List Int} (hc : ChOk cs) (hw : WkOk w) (hb : PB cs) : szD (allD cs w) ≤ 1000000 := by
  have h := (st_bound hc hw hb).2
  have h6 := hc.le
  have : szDs (stAll cs w.length) ≤ (stAll cs w.length).length * 20 := szDs_all fun x hx => by
    obtain ⟨d, as, rfl, hs⟩ := st_mem hx
    have := szD_ints as
    have := hs.len
    unfold stD
    simp only [szD, szDs] at *
    omega
  show szD (.tuple (stAll cs w.length)) ≤ _
  simp only [szD]
  omega
def alS : FS := asS
theorem call_all {o : Option FS} {cs : List (Int × Int)} {w : List Int} {Qx : EX → List U → Prop} {Q : U → List U → Prop} (ho : o = some asS) (hc : ChOk cs) (hw : WkOk w) (hb : PB cs) (q : Q (.v (.tuple (stAll cs w.length))) [.v (bkD cs w)]) : callP o [.v (bkD cs w)] Qx Q :=
  call_val ho (cs, w) rfl ⟨hc, hw, hb⟩ q
theorem call_look {o : Option FS} {p : List PyData} {cs : List (Int × Int)} {w as : List Int} {d : Int} {Qx : EX → List U → Prop} {Q : U → List U → Prop} (ho : o = some lookS) (hp : TubOk p) (hc : ChOk cs) (hw : WkOk w) (hs : StOk cs w d as) (q : ∀ p', TubOk p' → Q (.v (.bool true)) [.r p', .v (bkD cs w), .v (stD d as)]) : callP o [.r p, .v (bkD cs w), .v (stD d as)] Qx Q :=
  callP_of lookS ho (p, (cs, w), d, as) rfl ⟨hp, hc, hw, hs⟩ (by rintro r us' ⟨p', rfl, k, rfl⟩; exact q p' k) fun _ _ h => h.elim
theorem call_small {o : Option FS} {p : List PyData} {Qx : EX → List U → Prop} {Q : U → List U → Prop} (ho : o = some smallS) (hp : TubOk p) (q : ∀ cs w p', ChOk cs → WkOk w → PB cs → TubOk p' → Q (.v (bkD cs w)) [.r p']) : callP o [.r p] Qx Q :=
  callP_of smallS ho p rfl hp (by rintro r us' ⟨cs, w, p', rfl, k1, k2, k3, k4, rfl⟩; exact q cs w p' k1 k2 k3 k4) fun _ _ h => h.elim
theorem call_std {o : Option FS} {p : List PyData} {cs : List (Int × Int)} {w : List Int} {Qx : EX → List U → Prop} {Q : U → List U → Prop} (ho : o = some stdS) (hp : TubOk p) (hc : ChOk cs) (hw : WkOk w) (q : ∀ d as p', StOk cs w d as → TubOk p' → Q (.v (stD d as)) [.r p', .v (bkD cs w)]) : callP o [.r p, .v (bkD cs w)] Qx Q :=
  callP_of stdS ho (p, cs, w) rfl ⟨hp, hc, hw⟩ (by rintro r us' ⟨d, as, p', rfl, k1, k2, rfl⟩; exact q d as p' k1 k2) fun _ _ h => h.elim
theorem ones (cs : List (Int × Int)) : PyData.tuple (List.replicate cs.length [PyData.int 1]).flatten = .tuple ((cs.map fun _ => (1 : Int)).map .int) := by
  rw [flatRep, List.map_map]
  congr 1
  exact (List.eq_replicate_iff.mpr ⟨by simp, fun x hx => by obtain ⟨_, _, rfl⟩ := List.mem_map.mp hx; rfl⟩).symm
theorem w_law (ns : List Int) : wpF (gam [tubS, bS, smallS, asS, frS, sameT, asS, takeS, lookS, bookS, stdS]) 60 b_law 6 [.s ns] (fun r _ => r = .v (.bool true)) (fun _ _ => False) := by
  walk_at "gm"
  refine call_tub rfl fun p hp => ?_
  walk_at "gm"
  refine callP_of bS rfl () rfl trivial ?_ fun _ _ h => h.elim
  rintro r us' ⟨rfl, rfl⟩
  walk_at "gm"
  refine ckP_of ⟨by decide, by decide⟩ ?_
  walk_at "gm"
  refine forP_inv (fun i e => ∃ (p : List PyData) (a b c d : Option U), e = [some (.s ns), some (.o p), a, b, c, d] ∧ TubOk p ∧ Fre a ∧ Fre b ∧ Fre c ∧ Fre d) ⟨p, _, _, _, _, rfl, hp, .no, .no, .no, .no⟩ ?_ ?_
  · rintro i0 x e nx hx ⟨p, a, b, c, d, rfl, hp, ha, hb, hc, hd⟩ hn
    obtain ⟨_, rfl⟩ := rng_get hx
    walk_at "gm"
    refine call_small rfl hp fun cs w p1 hC hW hB hp1 => ?_
    walk_at "gm"
    refine call_all rfl hC hW hB ?_
    walk_at "gm"
    refine call_all rfl hC hW hB ?_
    walk_at "gm"
    refine call_sameT rfl rfl (okT_all _ _) (szD_all hC hW hB) ?_
    walk_at "gm"
    have h6 := hC.le
    have hp0 := List.length_pos_iff.mpr hC.ne
    refine call_val (args := fun p : List (Int × Int) × List Int => [.v (bkD p.1 p.2)]) rfl (cs, w) rfl hC ?_
    walk_at "gm"
    refine ckP_of ⟨by show (1 : Nat) ≤ 1000; decide, by show ((rowsD cs).length : Int) ≤ 1000; rw [len_rows]; omega, by show (1 : Int) ≤ ((rowsD cs).length : Int); rw [len_rows]; omega⟩ ?_
    walk_at "gm"
    rw [len_rows, Int.toNat_natCast, ones]
    refine call_sameT rfl rfl (okT_st _ _) (szD_st _ _ (by rw [List.length_map]; exact h6)) ?_
    walk_at "gm"
    obtain ⟨b1, b2⟩ := st_bound hC hW hB
    refine ckP_of ⟨by decide, by decide⟩ ?_
    walk_at "gm"
    refine forP_inv (fun i e => ∃ (p : List PyData) (a : Option U), e = [some (.s ns), some (.o p), some (.v (.int (0 + (i0 : Int)))), some (.v (bkD cs w)), some (.v (.tuple (stAll cs w.length))), a] ∧ TubOk p ∧ Fre a) ⟨p1, _, rfl, hp1, hd⟩ ?_ ?_
    · rintro j x e nx2 hx ⟨p, a, rfl, hp, ha⟩ hn2
      obtain ⟨_, rfl⟩ := rng_get hx
      walk_at "gm"
      refine call_take rfl hp (by omega) (by omega) fun k p2 k0 k1 hp2 => ?_
      walk_at "gm"
      have hk : k.toNat < (stAll cs w.length).length := by omega
      obtain ⟨d, as, ex, hs⟩ := st_mem (List.getElem_mem hk)
      refine optP_of (idx_tup k0 (show (stAll cs w.length)[k.toNat]? = some (stD d as) by rw [← ex]; exact List.getElem?_eq_getElem hk)) ?_
      walk_at "gm"
      refine call_look rfl hp2 hC hW hs fun p3 hp3 => ?_
      walk_at "gm"
      exact hn2 _ ⟨_, _, rfl, hp3, .v _⟩
    · rintro e ⟨p, a, rfl, hp, ha⟩
      walk_at "gm"
      exact hn _ ⟨_, _, _, _, _, rfl, hp, .v _, .v _, .v _, ha⟩
  · rintro e ⟨p, a, b, c, d, rfl, hp, ha, hb, hc, hd⟩
    walk_at "gm"
    refine ckP_of ⟨by decide, by decide⟩ ?_
    walk_at "gm"
    refine forP_inv (fun i e => ∃ (p : List PyData) (a b : Option U), e = [some (.s ns), some (.o p), a, b, c, d] ∧ TubOk p ∧ Fre a ∧ Fre b) ⟨p, _, _, rfl, hp, ha, hb⟩ ?_ ?_
    · rintro i x e nx hx ⟨p, a, b, rfl, hp, ha, hb⟩ hn
      obtain ⟨_, rfl⟩ := rng_get hx
      walk_at "gm"
      refine call_take rfl hp (by decide) (by decide) fun k1 p1 k10 k11 hp1 => ?_
      walk_at "gm"
      refine call_take rfl hp1 (by decide) (by decide) fun k2 p2 k20 k21 hp2 => ?_
      walk_at "gm"
      obtain ⟨x, hx, m, rfl, m1, m2⟩ := pick_tup (xs := [.int 3, .int 9, .int 40]) (i := k2) (P := fun d => ∃ m, d = .int m ∧ 1 ≤ m ∧ m ≤ 40) k20 (by simpa using k21) (by
        intro x hx
        simp only [List.mem_cons, List.not_mem_nil, or_false] at hx
        rcases hx with rfl | rfl | rfl <;> exact ⟨_, rfl, by omega, by omega⟩)
      refine optP_of hx ?_
      walk_at "gm"
      refine call_book rfl hp2 (by omega) (by omega) m1 m2 (by decide) (by decide) fun cs w p3 hC hW hp3 => ?_
      walk_at "gm"
      refine call_std rfl hp3 hC hW fun d2 as p4 hs hp4 => ?_
      walk_at "gm"
      refine call_look rfl hp4 hC hW hs fun p5 hp5 => ?_
      walk_at "gm"
      exact hn _ ⟨_, _, _, rfl, hp5, .v _, .v _⟩
    · rintro e ⟨p, a, b, rfl, hp, ha, hb⟩
      walk_at "gm"
      refine call_take rfl hp (by decide) (by decide) fun k1 p1 k10 k11 hp1 => ?_
      walk_at "gm"
      refine brP_of (fun h => ?_) fun h => ?_
      · walk_at "gm"
      · walk_at "gm"
        refine call_take rfl hp1 (by decide) (by decide) fun k2 p2 k20 k21 hp2 => ?_
        walk_at "gm"
        refine call_take rfl hp2 (by decide) (by decide) fun k3 p3 k30 k31 hp3 => ?_
        walk_at "gm"
        obtain ⟨k, hk, hk1, hk2⟩ : ∃ k : Nat, 1 + k3 = (k : Int) ∧ 1 ≤ k ∧ k ≤ 5 := ⟨(1 + k3).toNat, by omega, by omega, by omega⟩
        rw [hk, cut_none]
        have ebk : PyData.tuple [.tuple [.tuple [.int 1, .int 4], .tuple [.int 2, .int 5], .tuple [.int (1 + k2), .int 6]], .tuple ([PyData.int 1, .int 0, .int 2, .int 3, .int 1].take k)] = bkD [(1, 4), (2, 5), (1 + k2, 6)] ([1, 0, 2, 3, 1].take k) := by
          unfold bkD
          rw [List.map_take]; rfl
        rw [ebk]
        have hC : ChOk [(1, 4), (2, 5), (1 + k2, 6)] := ⟨by simp, by show 3 ≤ 6; decide, by
          intro c hc
          simp only [List.mem_cons, List.not_mem_nil, or_false] at hc
          rcases hc with rfl | rfl | rfl
          · exact ⟨by decide, by decide, by decide⟩
          · exact ⟨by decide, by decide, by decide⟩
          · exact ⟨by show 1 ≤ 1 + k2; omega, by show 1 + k2 ≤ 6; omega, by show (6 : Int) ≤ 40; decide⟩⟩
        have hW0 : WkOk [1, 0, 2, 3, 1] := ⟨by simp, by decide, by decide⟩
        have hW := hW0.take hk1
        have hB : PB [(1, 4), (2, 5), (1 + k2, 6)] := fun i _ => Nat.le_trans (allR_pre _ hC i) (by
          show (grow (grow (grow [[]] 4) 5) 6).length ≤ 2000
          rw [grow_len, grow_len, grow_len]; decide)
        generalize ([(1, 4), (2, 5), (1 + k2, 6)] : List (Int × Int)) = cs at hC hB ⊢
        generalize ([1, 0, 2, 3, 1] : List Int).take k = w at hW ⊢
        walk_at "gm"
        refine call_all rfl hC hW hB ?_
        walk_at "gm"
        refine call_all rfl hC hW hB ?_
        walk_at "gm"
        refine call_sameT rfl rfl (okT_all _ _) (szD_all hC hW hB) ?_
        walk_at "gm"
        obtain ⟨b1, b2⟩ := st_bound hC hW hB
        refine call_take rfl hp3 (by omega) (by omega) fun k4 p4 k40 k41 hp4 => ?_
        walk_at "gm"
        have hk : k4.toNat < (stAll cs w.length).length := by omega
        obtain ⟨d, as, ex, hs⟩ := st_mem (List.getElem_mem hk)
        refine optP_of (idx_tup k40 (show (stAll cs w.length)[k4.toNat]? = some (stD d as) by rw [← ex]; exact List.getElem?_eq_getElem hk)) ?_
        walk_at "gm"
        refine call_look rfl hp4 hC hW hs fun p5 hp5 => ?_
        walk_at "gm"
end GL

set_option maxRecDepth 100000
set_option maxHeartbeats 0
namespace GL
open PySem PySem.Spec PyProof.Rows L2 GM
theorem fns_nil {Q : Nat → FS → Prop} : ∀ f S, gam [] f = some S → Q f S := fun f S h => by
  unfold gam at h
  simp at h
theorem fns_cons {Q : Nat → FS → Prop} {S0 : FS} {l : List FS} (h0 : Q 0 S0) (ht : ∀ f S, gam l f = some S → Q (f + 1) S) : ∀ f S, gam (S0 :: l) f = some S → Q f S := fun f S h => by
  cases f with
  | zero =>
    have e : S0 = S := Option.some.inj h
    rw [← e]; exact h0
  | succ f => exact ht f S h
theorem full_of {l : List FS} {ns : List Str} (h : l.length = ns.length) : ∀ f x, ns[f]? = some x → ∃ S, gam l f = some S := fun f x e => by
  have hl := (List.getElem?_eq_some_iff.mp e).1
  exact ⟨l[f], List.getElem?_eq_getElem (by omega)⟩
def CT0 : CTab := fun _ => none
theorem end_sp {K : PySem.W.Frag} {H : Hp} {a : Addr} {ns : List Int} (hS : SqL K H a (ns.map V.int)) (hl : ns.length ≤ 63) : spOf K CT0 lawS [.ref a] H (fun v _ => v = .bl true) fun _ _ _ => False := by
  have nr : ∀ b, ¬ RefAt [V.ref a] [U.s ns] b := by
    rintro b ⟨i, xs, h1, _⟩
    cases i with
    | zero => cases h1
    | succ i => simp at h1
  have hP : ∀ b o, H b = some o → Prot H [V.ref a] [U.s ns] b = some o := fun b o h => by
    unfold Prot
    rw [if_neg (nr b)]
    exact h
  refine ⟨ns, fun _ => none, fun _ _ z => (by cases z), .cons ⟨a, rfl, Same.seq hP hS, ?_⟩ .nil, ?_, trivial, ?_, ?_⟩
  · unfold LIM; omega
  · intro i j xs ys b ne h1
    cases i with
    | zero => cases h1
    | succ i => exact absurd h1 (by simp [lawS])
  · rintro r us' v F' H' h _ rn
    have e : r = .v (.bool true) := h
    subst e
    cases rn
    rfl
  · intro x us' cls d F' H' h
    exact h.elim
theorem all_mk {P : Program} {w : World} {K : PySem.W.Frag} {h : Heap} {mg : Str → Option Value} {fa : Addr} (X : K.In h) (G : h.Ns mainGlobals mg) (hfa : mg "law" = some (.ref fa))
    {f0 : Addr} {od0 an0 : Option Addr} {sl0 : Array (Option Value)} {oc0 kV0 dc0 pm0 cd0 ct0 : Value} (a0 : PySem.W.nsIn K mainGlobals "_law_tub" = some (some (.ref f0))) (l0 : K.lookup f0 = some ⟨oc0, od0, .func (PySem.W.fnOf "_law_tub" "_law_tub" (defArgs s_l_tub) (defBody s_l_tub) (defScope s_l_tub) .none kV0 dc0 pm0 an0 cd0 ct0), sl0⟩) (c0 : PySem.W.codeIn K cd0 "_law_tub" = true) (k0 : PySem.W.keepIn K (.ref f0) = true)
    {f1 : Addr} {od1 an1 : Option Addr} {sl1 : Array (Option Value)} {oc1 kV1 dc1 pm1 cd1 ct1 : Value} (a1 : PySem.W.nsIn K mainGlobals "_law_all" = some (some (.ref f1))) (l1 : K.lookup f1 = some ⟨oc1, od1, .func (PySem.W.fnOf "_law_all" "_law_all" (defArgs s_l_all) (defBody s_l_all) (defScope s_l_all) .none kV1 dc1 pm1 an1 cd1 ct1), sl1⟩) (c1 : PySem.W.codeIn K cd1 "_law_all" = true) (k1 : PySem.W.keepIn K (.ref f1) = true)
    {f2 : Addr} {od2 an2 : Option Addr} {sl2 : Array (Option Value)} {oc2 kV2 dc2 pm2 cd2 ct2 : Value} (a2 : PySem.W.nsIn K mainGlobals "fresh_standing" = some (some (.ref f2))) (l2 : K.lookup f2 = some ⟨oc2, od2, .func (PySem.W.fnOf "fresh_standing" "fresh_standing" (defArgs s_fresh_standing) (defBody s_fresh_standing) (defScope s_fresh_standing) .none kV2 dc2 pm2 an2 cd2 ct2), sl2⟩) (c2 : PySem.W.codeIn K cd2 "fresh_standing" = true) (k2 : PySem.W.keepIn K (.ref f2) = true)
    {f3 : Addr} {od3 an3 : Option Addr} {sl3 : Array (Option Value)} {oc3 kV3 dc3 pm3 cd3 ct3 : Value} (a3 : PySem.W.nsIn K mainGlobals "due_chores" = some (some (.ref f3))) (l3 : K.lookup f3 = some ⟨oc3, od3, .func (PySem.W.fnOf "due_chores" "due_chores" (defArgs s_due_chores) (defBody s_due_chores) (defScope s_due_chores) .none kV3 dc3 pm3 an3 cd3 ct3), sl3⟩) (c3 : PySem.W.codeIn K cd3 "due_chores" = true) (k3 : PySem.W.keepIn K (.ref f3) = true)
    {f4 : Addr} {od4 an4 : Option Addr} {sl4 : Array (Option Value)} {oc4 kV4 dc4 pm4 cd4 ct4 : Value} (a4 : PySem.W.nsIn K mainGlobals "ready_chores" = some (some (.ref f4))) (l4 : K.lookup f4 = some ⟨oc4, od4, .func (PySem.W.fnOf "ready_chores" "ready_chores" (defArgs s_ready_chores) (defBody s_ready_chores) (defScope s_ready_chores) .none kV4 dc4 pm4 an4 cd4 ct4), sl4⟩) (c4 : PySem.W.codeIn K cd4 "ready_chores" = true) (k4 : PySem.W.keepIn K (.ref f4) = true)
    {f5 : Addr} {od5 an5 : Option Addr} {sl5 : Array (Option Value)} {oc5 kV5 dc5 pm5 cd5 ct5 : Value} (a5 : PySem.W.nsIn K mainGlobals "slack_of" = some (some (.ref f5))) (l5 : K.lookup f5 = some ⟨oc5, od5, .func (PySem.W.fnOf "slack_of" "slack_of" (defArgs s_slack_of) (defBody s_slack_of) (defScope s_slack_of) .none kV5 dc5 pm5 an5 cd5 ct5), sl5⟩) (c5 : PySem.W.codeIn K cd5 "slack_of" = true) (k5 : PySem.W.keepIn K (.ref f5) = true)
    {f6 : Addr} {od6 an6 : Option Addr} {sl6 : Array (Option Value)} {oc6 kV6 dc6 pm6 cd6 ct6 : Value} (a6 : PySem.W.nsIn K mainGlobals "lots_between" = some (some (.ref f6))) (l6 : K.lookup f6 = some ⟨oc6, od6, .func (PySem.W.fnOf "lots_between" "lots_between" (defArgs s_lots_between) (defBody s_lots_between) (defScope s_lots_between) .none kV6 dc6 pm6 an6 cd6 ct6), sl6⟩) (c6 : PySem.W.codeIn K cd6 "lots_between" = true) (k6 : PySem.W.keepIn K (.ref f6) = true)
    {f7 : Addr} {od7 an7 : Option Addr} {sl7 : Array (Option Value)} {oc7 kV7 dc7 pm7 cd7 ct7 : Value} (a7 : PySem.W.nsIn K mainGlobals "let_lots" = some (some (.ref f7))) (l7 : K.lookup f7 = some ⟨oc7, od7, .func (PySem.W.fnOf "let_lots" "let_lots" (defArgs s_let_lots) (defBody s_let_lots) (defScope s_let_lots) .none kV7 dc7 pm7 an7 cd7 ct7), sl7⟩) (c7 : PySem.W.codeIn K cd7 "let_lots" = true) (k7 : PySem.W.keepIn K (.ref f7) = true)
    {f8 : Addr} {od8 an8 : Option Addr} {sl8 : Array (Option Value)} {oc8 kV8 dc8 pm8 cd8 ct8 : Value} (a8 : PySem.W.nsIn K mainGlobals "aged" = some (some (.ref f8))) (l8 : K.lookup f8 = some ⟨oc8, od8, .func (PySem.W.fnOf "aged" "aged" (defArgs s_aged) (defBody s_aged) (defScope s_aged) .none kV8 dc8 pm8 an8 cd8 ct8), sl8⟩) (c8 : PySem.W.codeIn K cd8 "aged" = true) (k8 : PySem.W.keepIn K (.ref f8) = true)
    {f9 : Addr} {od9 an9 : Option Addr} {sl9 : Array (Option Value)} {oc9 kV9 dc9 pm9 cd9 ct9 : Value} (a9 : PySem.W.nsIn K mainGlobals "next_standing" = some (some (.ref f9))) (l9 : K.lookup f9 = some ⟨oc9, od9, .func (PySem.W.fnOf "next_standing" "next_standing" (defArgs s_next_standing) (defBody s_next_standing) (defScope s_next_standing) .none kV9 dc9 pm9 an9 cd9 ct9), sl9⟩) (c9 : PySem.W.codeIn K cd9 "next_standing" = true) (k9 : PySem.W.keepIn K (.ref f9) = true)
    {f10 : Addr} {od10 an10 : Option Addr} {sl10 : Array (Option Value)} {oc10 kV10 dc10 pm10 cd10 ct10 : Value} (a10 : PySem.W.nsIn K mainGlobals "_law_same" = some (some (.ref f10))) (l10 : K.lookup f10 = some ⟨oc10, od10, .func (PySem.W.fnOf "_law_same" "_law_same" (defArgs s_l_same) (defBody s_l_same) (defScope s_l_same) .none kV10 dc10 pm10 an10 cd10 ct10), sl10⟩) (c10 : PySem.W.codeIn K cd10 "_law_same" = true) (k10 : PySem.W.keepIn K (.ref f10) = true)
    {f11 : Addr} {od11 an11 : Option Addr} {sl11 : Array (Option Value)} {oc11 kV11 dc11 pm11 cd11 ct11 : Value} (a11 : PySem.W.nsIn K mainGlobals "is_let" = some (some (.ref f11))) (l11 : K.lookup f11 = some ⟨oc11, od11, .func (PySem.W.fnOf "is_let" "is_let" (defArgs s_is_let) (defBody s_is_let) (defScope s_is_let) .none kV11 dc11 pm11 an11 cd11 ct11), sl11⟩) (c11 : PySem.W.codeIn K cd11 "is_let" = true) (k11 : PySem.W.keepIn K (.ref f11) = true)
    {f12 : Addr} {od12 an12 : Option Addr} {sl12 : Array (Option Value)} {oc12 kV12 dc12 pm12 cd12 ct12 : Value} (a12 : PySem.W.nsIn K mainGlobals "all_standings" = some (some (.ref f12))) (l12 : K.lookup f12 = some ⟨oc12, od12, .func (PySem.W.fnOf "all_standings" "all_standings" (defArgs s_all_standings) (defBody s_all_standings) (defScope s_all_standings) .none kV12 dc12 pm12 an12 cd12 ct12), sl12⟩) (c12 : PySem.W.codeIn K cd12 "all_standings" = true) (k12 : PySem.W.keepIn K (.ref f12) = true)
    {f13 : Addr} {od13 an13 : Option Addr} {sl13 : Array (Option Value)} {oc13 kV13 dc13 pm13 cd13 ct13 : Value} (a13 : PySem.W.nsIn K mainGlobals "_law_named" = some (some (.ref f13))) (l13 : K.lookup f13 = some ⟨oc13, od13, .func (PySem.W.fnOf "_law_named" "_law_named" (defArgs s_l_named) (defBody s_l_named) (defScope s_l_named) .none kV13 dc13 pm13 an13 cd13 ct13), sl13⟩) (c13 : PySem.W.codeIn K cd13 "_law_named" = true) (k13 : PySem.W.keepIn K (.ref f13) = true)
    {f14 : Addr} {od14 an14 : Option Addr} {sl14 : Array (Option Value)} {oc14 kV14 dc14 pm14 cd14 ct14 : Value} (a14 : PySem.W.nsIn K mainGlobals "_law_take" = some (some (.ref f14))) (l14 : K.lookup f14 = some ⟨oc14, od14, .func (PySem.W.fnOf "_law_take" "_law_take" (defArgs s_l_take) (defBody s_l_take) (defScope s_l_take) .none kV14 dc14 pm14 an14 cd14 ct14), sl14⟩) (c14 : PySem.W.codeIn K cd14 "_law_take" = true) (k14 : PySem.W.keepIn K (.ref f14) = true)
    {f15 : Addr} {od15 an15 : Option Addr} {sl15 : Array (Option Value)} {oc15 kV15 dc15 pm15 cd15 ct15 : Value} (a15 : PySem.W.nsIn K mainGlobals "_law_chore" = some (some (.ref f15))) (l15 : K.lookup f15 = some ⟨oc15, od15, .func (PySem.W.fnOf "_law_chore" "_law_chore" (defArgs s_l_chore) (defBody s_l_chore) (defScope s_l_chore) .none kV15 dc15 pm15 an15 cd15 ct15), sl15⟩) (c15 : PySem.W.codeIn K cd15 "_law_chore" = true) (k15 : PySem.W.keepIn K (.ref f15) = true)
    {f16 : Addr} {od16 an16 : Option Addr} {sl16 : Array (Option Value)} {oc16 kV16 dc16 pm16 cd16 ct16 : Value} (a16 : PySem.W.nsIn K mainGlobals "_law_book" = some (some (.ref f16))) (l16 : K.lookup f16 = some ⟨oc16, od16, .func (PySem.W.fnOf "_law_book" "_law_book" (defArgs s_l_book) (defBody s_l_book) (defScope s_l_book) .none kV16 dc16 pm16 an16 cd16 ct16), sl16⟩) (c16 : PySem.W.codeIn K cd16 "_law_book" = true) (k16 : PySem.W.keepIn K (.ref f16) = true)
    {f17 : Addr} {od17 an17 : Option Addr} {sl17 : Array (Option Value)} {oc17 kV17 dc17 pm17 cd17 ct17 : Value} (a17 : PySem.W.nsIn K mainGlobals "_law_small" = some (some (.ref f17))) (l17 : K.lookup f17 = some ⟨oc17, od17, .func (PySem.W.fnOf "_law_small" "_law_small" (defArgs s_l_small) (defBody s_l_small) (defScope s_l_small) .none kV17 dc17 pm17 an17 cd17 ct17), sl17⟩) (c17 : PySem.W.codeIn K cd17 "_law_small" = true) (k17 : PySem.W.keepIn K (.ref f17) = true)
    {f18 : Addr} {od18 an18 : Option Addr} {sl18 : Array (Option Value)} {oc18 kV18 dc18 pm18 cd18 ct18 : Value} (a18 : PySem.W.nsIn K mainGlobals "_law_lots" = some (some (.ref f18))) (l18 : K.lookup f18 = some ⟨oc18, od18, .func (PySem.W.fnOf "_law_lots" "_law_lots" (defArgs s_l_lots) (defBody s_l_lots) (defScope s_l_lots) .none kV18 dc18 pm18 an18 cd18 ct18), sl18⟩) (c18 : PySem.W.codeIn K cd18 "_law_lots" = true) (k18 : PySem.W.keepIn K (.ref f18) = true)
    {f19 : Addr} {od19 an19 : Option Addr} {sl19 : Array (Option Value)} {oc19 kV19 dc19 pm19 cd19 ct19 : Value} (a19 : PySem.W.nsIn K mainGlobals "_law_is_let" = some (some (.ref f19))) (l19 : K.lookup f19 = some ⟨oc19, od19, .func (PySem.W.fnOf "_law_is_let" "_law_is_let" (defArgs s_l_is_let) (defBody s_l_is_let) (defScope s_l_is_let) .none kV19 dc19 pm19 an19 cd19 ct19), sl19⟩) (c19 : PySem.W.codeIn K cd19 "_law_is_let" = true) (k19 : PySem.W.keepIn K (.ref f19) = true)
    {f20 : Addr} {od20 an20 : Option Addr} {sl20 : Array (Option Value)} {oc20 kV20 dc20 pm20 cd20 ct20 : Value} (a20 : PySem.W.nsIn K mainGlobals "_law_next" = some (some (.ref f20))) (l20 : K.lookup f20 = some ⟨oc20, od20, .func (PySem.W.fnOf "_law_next" "_law_next" (defArgs s_l_next) (defBody s_l_next) (defScope s_l_next) .none kV20 dc20 pm20 an20 cd20 ct20), sl20⟩) (c20 : PySem.W.codeIn K cd20 "_law_next" = true) (k20 : PySem.W.keepIn K (.ref f20) = true)
    {f21 : Addr} {od21 an21 : Option Addr} {sl21 : Array (Option Value)} {oc21 kV21 dc21 pm21 cd21 ct21 : Value} (a21 : PySem.W.nsIn K mainGlobals "_law_looked" = some (some (.ref f21))) (l21 : K.lookup f21 = some ⟨oc21, od21, .func (PySem.W.fnOf "_law_looked" "_law_looked" (defArgs s_l_looked) (defBody s_l_looked) (defScope s_l_looked) .none kV21 dc21 pm21 an21 cd21 ct21), sl21⟩) (c21 : PySem.W.codeIn K cd21 "_law_looked" = true) (k21 : PySem.W.keepIn K (.ref f21) = true)
    {f22 : Addr} {od22 an22 : Option Addr} {sl22 : Array (Option Value)} {oc22 kV22 dc22 pm22 cd22 ct22 : Value} (a22 : PySem.W.nsIn K mainGlobals "_law_standing" = some (some (.ref f22))) (l22 : K.lookup f22 = some ⟨oc22, od22, .func (PySem.W.fnOf "_law_standing" "_law_standing" (defArgs s_l_standing) (defBody s_l_standing) (defScope s_l_standing) .none kV22 dc22 pm22 an22 cd22 ct22), sl22⟩) (c22 : PySem.W.codeIn K cd22 "_law_standing" = true) (k22 : PySem.W.keepIn K (.ref f22) = true)
    {f23 : Addr} {od23 an23 : Option Addr} {sl23 : Array (Option Value)} {oc23 kV23 dc23 pm23 cd23 ct23 : Value} (a23 : PySem.W.nsIn K mainGlobals "law" = some (some (.ref f23))) (l23 : K.lookup f23 = some ⟨oc23, od23, .func (PySem.W.fnOf "law" "law" (defArgs s_law) (defBody s_law) (defScope s_law) .none kV23 dc23 pm23 an23 cd23 ct23), sl23⟩) (c23 : PySem.W.codeIn K cd23 "law" = true) (k23 : PySem.W.keepIn K (.ref f23) = true)
    (z0 : PySem.W.nsIn K mainGlobals "len" = some none)
    (z1 : PySem.W.nsIn K mainGlobals "abs" = some none)
    (z2 : PySem.W.nsIn K mainGlobals "int" = some none)
    (z3 : PySem.W.nsIn K mainGlobals "tuple" = some none)
    (z4 : PySem.W.nsIn K mainGlobals "list" = some none)
    (z5 : PySem.W.nsIn K mainGlobals "sorted" = some none)
    (z6 : PySem.W.nsIn K mainGlobals "sum" = some none)
    (z7 : PySem.W.nsIn K mainGlobals "min" = some none)
    (z8 : PySem.W.nsIn K mainGlobals "max" = some none)
    (z9 : PySem.W.nsIn K mainGlobals "isinstance" = some none)
    (z10 : PySem.W.nsIn K mainGlobals "bool" = some none)
    (z11 : PySem.W.nsIn K mainGlobals "str" = some none)
    (z12 : PySem.W.nsIn K mainGlobals "range" = some none)
    (z13 : PySem.W.nsIn K mainGlobals "enumerate" = some none)
    (z14 : PySem.W.nsIn K mainGlobals "zip" = some none)
    (z15 : PySem.W.nsIn K mainGlobals "reversed" = some none)
    (z16 : PySem.W.nsIn K mainGlobals "set" = some none)
    (z17 : PySem.W.nsIn K mainGlobals "dict" = some none)
    : ∃ fd : FuncData, (∀ (s : Shared) (v : Value), BindsTo s fd ⟨[v], []⟩ [("script", v)]) ∧ ∀ base : Heap, K.In base → base.Ns mainGlobals mg → FnOk P w K mg base (L2.CX P w) 5 fa fd ["script"] (spOf K CT0 lawS) := by
  have e := hfa.symm.trans (PySem.W.mg_of X G a23)
  cases e
  have B : ∀ x ∈ blts, mg x = none := fun x hx => by
    simp only [blts, List.mem_cons, List.not_mem_nil, or_false] at hx
    rcases hx with rfl | rfl | rfl | rfl | rfl | rfl | rfl | rfl | rfl | rfl | rfl | rfl | rfl | rfl | rfl | rfl | rfl | rfl
    · exact PySem.W.mg_none_of X G z0
    · exact PySem.W.mg_none_of X G z1
    · exact PySem.W.mg_none_of X G z2
    · exact PySem.W.mg_none_of X G z3
    · exact PySem.W.mg_none_of X G z4
    · exact PySem.W.mg_none_of X G z5
    · exact PySem.W.mg_none_of X G z6
    · exact PySem.W.mg_none_of X G z7
    · exact PySem.W.mg_none_of X G z8
    · exact PySem.W.mg_none_of X G z9
    · exact PySem.W.mg_none_of X G z10
    · exact PySem.W.mg_none_of X G z11
    · exact PySem.W.mg_none_of X G z12
    · exact PySem.W.mg_none_of X G z13
    · exact PySem.W.mg_none_of X G z14
    · exact PySem.W.mg_none_of X G z15
    · exact PySem.W.mg_none_of X G z16
    · exact PySem.W.mg_none_of X G z17
  have F0 := fun_mk (st := s_l_tub) l0 c0 k0
  have b0 := F0.binds (ps := ["script"]) fun _ _ _ _ _ _ us hl => match us, hl with | [_], _ => rfl
  have F1 := fun_mk (st := s_l_all) l1 c1 k1
  have b1 := F1.binds (ps := ["book"]) fun _ _ _ _ _ _ us hl => match us, hl with | [_], _ => rfl
  have F2 := fun_mk (st := s_fresh_standing) l2 c2 k2
  have b2 := F2.binds (ps := ["book"]) fun _ _ _ _ _ _ us hl => match us, hl with | [_], _ => rfl
  have F3 := fun_mk (st := s_due_chores) l3 c3 k3
  have b3 := F3.binds (ps := ["book", "standing"]) fun _ _ _ _ _ _ us hl => match us, hl with | [_, _], _ => rfl
  have F4 := fun_mk (st := s_ready_chores) l4 c4 k4
  have b4 := F4.binds (ps := ["book", "standing"]) fun _ _ _ _ _ _ us hl => match us, hl with | [_, _], _ => rfl
  have F5 := fun_mk (st := s_slack_of) l5 c5 k5
  have b5 := F5.binds (ps := ["book", "standing"]) fun _ _ _ _ _ _ us hl => match us, hl with | [_, _], _ => rfl
  have F6 := fun_mk (st := s_lots_between) l6 c6 k6
  have b6 := F6.binds (ps := ["must", "ready", "hands"]) fun _ _ _ _ _ _ us hl => match us, hl with | [_, _, _], _ => rfl
  have F7 := fun_mk (st := s_let_lots) l7 c7 k7
  have b7 := F7.binds (ps := ["book", "standing"]) fun _ _ _ _ _ _ us hl => match us, hl with | [_, _], _ => rfl
  have F8 := fun_mk (st := s_aged) l8 c8 k8
  have b8 := F8.binds (ps := ["ages", "lot"]) fun _ _ _ _ _ _ us hl => match us, hl with | [_, _], _ => rfl
  have F9 := fun_mk (st := s_next_standing) l9 c9 k9
  have b9 := F9.binds (ps := ["book", "standing", "lot"]) fun _ _ _ _ _ _ us hl => match us, hl with | [_, _, _], _ => rfl
  have F10 := fun_mk (st := s_l_same) l10 c10 k10
  have b10 := F10.binds (ps := ["told", "due"]) fun _ _ _ _ _ _ us hl => match us, hl with | [_, _], _ => rfl
  have F11 := fun_mk (st := s_is_let) l11 c11 k11
  have b11 := F11.binds (ps := ["book", "standing", "lot"]) fun _ _ _ _ _ _ us hl => match us, hl with | [_, _, _], _ => rfl
  have F12 := fun_mk (st := s_all_standings) l12 c12 k12
  have b12 := F12.binds (ps := ["book"]) fun _ _ _ _ _ _ us hl => match us, hl with | [_], _ => rfl
  have F13 := fun_mk (st := s_l_named) l13 c13 k13
  have b13 := F13.binds (ps := []) fun _ _ _ _ _ _ us hl => match us, hl with | [], _ => rfl
  have F14 := fun_mk (st := s_l_take) l14 c14 k14
  have b14 := F14.binds (ps := ["tub", "many"]) fun _ _ _ _ _ _ us hl => match us, hl with | [_, _], _ => rfl
  have F15 := fun_mk (st := s_l_chore) l15 c15 k15
  have b15 := F15.binds (ps := ["tub", "most"]) fun _ _ _ _ _ _ us hl => match us, hl with | [_, _], _ => rfl
  have F16 := fun_mk (st := s_l_book) l16 c16 k16
  have b16 := F16.binds (ps := ["tub", "chores", "most", "days"]) fun _ _ _ _ _ _ us hl => match us, hl with | [_, _, _, _], _ => rfl
  have F17 := fun_mk (st := s_l_small) l17 c17 k17
  have b17 := F17.binds (ps := ["tub"]) fun _ _ _ _ _ _ us hl => match us, hl with | [_], _ => rfl
  have F18 := fun_mk (st := s_l_lots) l18 c18 k18
  have b18 := F18.binds (ps := ["many"]) fun _ _ _ _ _ _ us hl => match us, hl with | [_], _ => rfl
  have F19 := fun_mk (st := s_l_is_let) l19 c19 k19
  have b19 := F19.binds (ps := ["book", "standing", "lot"]) fun _ _ _ _ _ _ us hl => match us, hl with | [_, _, _], _ => rfl
  have F20 := fun_mk (st := s_l_next) l20 c20 k20
  have b20 := F20.binds (ps := ["book", "standing", "lot"]) fun _ _ _ _ _ _ us hl => match us, hl with | [_, _, _], _ => rfl
  have F21 := fun_mk (st := s_l_looked) l21 c21 k21
  have b21 := F21.binds (ps := ["tub", "book", "standing"]) fun _ _ _ _ _ _ us hl => match us, hl with | [_, _, _], _ => rfl
  have F22 := fun_mk (st := s_l_standing) l22 c22 k22
  have b22 := F22.binds (ps := ["tub", "book"]) fun _ _ _ _ _ _ us hl => match us, hl with | [_, _], _ => rfl
  have F23 := fun_mk (st := s_law) l23 c23 k23
  have b23 := F23.binds (ps := ["script"]) fun _ _ _ _ _ _ us hl => match us, hl with | [_], _ => rfl
  have XC : ∀ c C ns, CT0 c = some (C, ns) → ErrC K C ns := fun c C ns h => nomatch h
  refine ⟨PySem.W.fnOf "law" "law" (defArgs s_law) (defBody s_law) (defScope s_law) .none kV23 dc23 pm23 an23 cd23 ct23, fun s v => .of_eq rfl, fun base _ _ => ?_⟩
  have G0 : FnOk P w K mg base (L2.CX P w) 1 f0 _ ["script"] (spOf K CT0 tubS) := fn_ok F0 sc_l_tub rfl rfl (fun _ h => stOf_loc h)
    ⟨B, fun h => (by cases h), fun h => (by cases h), fun x i h => (by cases h), fns_nil, full_of (l := []) rfl, XC, (fun d x h => (by cases h)), (fun c x ns h => (by cases h))⟩ ck_l_tub (fun a _ => by first | exact rfl | (cases a <;> exact rfl)) (fun a _ => w_l_tub a)
  have G1 : FnOk P w K mg base (L2.CX P w) 1 f1 _ ["book"] (spOf K CT0 asS) := fn_ok F1 sc_l_all rfl rfl (fun _ h => stOf_loc h)
    ⟨B, fun h => (by cases h), fun h => (by cases h), fun x i h => (by cases h), fns_nil, full_of (l := []) rfl, XC, (fun d x h => (by cases h)), (fun c x ns h => (by cases h))⟩ ck_l_all (fun a _ => by first | exact rfl | (cases a <;> exact rfl)) (fun a h => w_l_all a.1 a.2 h.1 h.2.1 h.2.2)
  have G2 : FnOk P w K mg base (L2.CX P w) 1 f2 _ ["book"] (spOf K CT0 frS) := fn_ok F2 sc_fresh_standing rfl rfl (fun _ h => stOf_loc h)
    ⟨B, fun h => (by cases h), fun h => (by cases h), fun x i h => (by cases h), fns_nil, full_of (l := []) rfl, XC, (fun d x h => (by cases h)), (fun c x ns h => (by cases h))⟩ ck_fresh_standing (fun a _ => by first | exact rfl | (cases a <;> exact rfl)) (fun a h => w_fresh_standing a.1 a.2 h)
  have G3 : FnOk P w K mg base (L2.CX P w) 1 f3 _ ["book", "standing"] (spOf K CT0 dueS) := fn_ok F3 sc_due_chores rfl rfl (fun _ h => stOf_loc h)
    ⟨B, fun h => (by cases h), fun h => (by cases h), fun x i h => (by cases h), fns_nil, full_of (l := []) rfl, XC, (fun d x h => (by cases h)), (fun c x ns h => (by cases h))⟩ ck_due_chores (fun a _ => by first | exact rfl | (cases a <;> exact rfl)) (fun a h => w_due_chores a.1.1 a.1.2 a.2.1 a.2.2 h.1 h.2)
  have G4 : FnOk P w K mg base (L2.CX P w) 1 f4 _ ["book", "standing"] (spOf K CT0 rdyS) := fn_ok F4 sc_ready_chores rfl rfl (fun _ h => stOf_loc h)
    ⟨B, fun h => (by cases h), fun h => (by cases h), fun x i h => (by cases h), fns_nil, full_of (l := []) rfl, XC, (fun d x h => (by cases h)), (fun c x ns h => (by cases h))⟩ ck_ready_chores (fun a _ => by first | exact rfl | (cases a <;> exact rfl)) (fun a h => w_ready_chores a.1.1 a.1.2 a.2.1 a.2.2 h.1 h.2)
  have G5 : FnOk P w K mg base (L2.CX P w) 1 f5 _ ["book", "standing"] (spOf K CT0 slS) := fn_ok F5 sc_slack_of rfl rfl (fun _ h => stOf_loc h)
    ⟨B, fun h => (by cases h), fun h => (by cases h), fun x i h => (by cases h), fns_nil, full_of (l := []) rfl, XC, (fun d x h => (by cases h)), (fun c x ns h => (by cases h))⟩ ck_slack_of (fun a _ => by first | exact rfl | (cases a <;> exact rfl)) (fun a h => w_slack_of a.1.1 a.1.2 a.2.1 a.2.2 h.1 h.2)
  have G6 : FnOk P w K mg base (L2.CX P w) 1 f6 _ ["must", "ready", "hands"] (spOf K CT0 lbS) := fn_ok F6 sc_lots_between rfl rfl (fun _ h => stOf_loc h)
    ⟨B, fun h => (by cases h), fun h => (by cases h), fun x i h => (by cases h), fns_nil, full_of (l := []) rfl, XC, (fun d x h => (by cases h)), (fun c x ns h => (by cases h))⟩ ck_lots_between (fun a _ => by first | exact rfl | (cases a <;> exact rfl)) (fun a h => w_lots_between a.1 a.2.1 a.2.2 h.1 h.2.1 h.2.2)
  have G7 : FnOk P w K mg base (L2.CX P w) 2 f7 _ ["book", "standing"] (spOf K CT0 llS) := fn_ok F7 sc_let_lots rfl rfl (fun _ h => stOf_loc h)
    ⟨B, fun h => (by cases h), fun h => (by cases h), fun x i h => (by cases h), (fns_cons ⟨_, f3, _, _, 1, rfl, PySem.W.mg_of X G a3, k3, b3, G3, by decide, (fun p hp => by cases hp)⟩ (fns_cons ⟨_, f4, _, _, 1, rfl, PySem.W.mg_of X G a4, k4, b4, G4, by decide, (fun p hp => by cases hp)⟩ (fns_cons ⟨_, f6, _, _, 1, rfl, PySem.W.mg_of X G a6, k6, b6, G6, by decide, (fun p hp => by cases hp)⟩ fns_nil))), full_of (l := [dueS, rdyS, lbS]) rfl, XC, (fun d x h => (by cases h)), (fun c x ns h => (by cases h))⟩ ck_let_lots (fun a _ => by first | exact rfl | (cases a <;> exact rfl)) (fun a h => w_let_lots a.1.1 a.1.2 a.2.1 a.2.2 h.1 h.2.1 h.2.2)
  have G8 : FnOk P w K mg base (L2.CX P w) 1 f8 _ ["ages", "lot"] (spOf K CT0 agS) := fn_ok F8 sc_aged rfl rfl (fun _ h => stOf_loc h)
    ⟨B, fun h => (by cases h), fun h => (by cases h), fun x i h => (by cases h), fns_nil, full_of (l := []) rfl, XC, (fun d x h => (by cases h)), (fun c x ns h => (by cases h))⟩ ck_aged (fun a _ => by first | exact rfl | (cases a <;> exact rfl)) (fun a h => w_aged a.1 a.2 h)
  have G9 : FnOk P w K mg base (L2.CX P w) 2 f9 _ ["book", "standing", "lot"] (spOf K CT0 nxS) := fn_ok F9 sc_next_standing rfl rfl (fun _ h => stOf_loc h)
    ⟨B, fun h => (by cases h), fun h => (by cases h), fun x i h => (by cases h), (fns_cons ⟨_, f8, _, _, 1, rfl, PySem.W.mg_of X G a8, k8, b8, G8, by decide, (fun p hp => by cases hp)⟩ fns_nil), full_of (l := [agS]) rfl, XC, (fun d x h => (by cases h)), (fun c x ns h => (by cases h))⟩ ck_next_standing (fun a _ => by first | exact rfl | (cases a <;> exact rfl)) (fun a h => w_next_standing a.1.1 a.1.2 a.2.1 a.2.2.1 a.2.2.2 h.1 h.2.1 h.2.2)
  have G10 : FnOk P w K mg base (L2.CX P w) 1 f10 _ ["told", "due"] (spOf K CT0 sameT) := fn_ok F10 sc_l_same rfl rfl (fun _ h => stOf_loc h)
    ⟨B, fun h => (by cases h), fun h => (by cases h), fun x i h => (by cases h), fns_nil, full_of (l := []) rfl, XC, (fun d x h => (by cases h)), (fun c x ns h => (by cases h))⟩ ck_l_same (fun a _ => by first | exact rfl | (cases a <;> exact rfl)) (fun d h => w_l_same d h.1 h.2)
  have G11 : FnOk P w K mg base (L2.CX P w) 2 f11 _ ["book", "standing", "lot"] (spOf K CT0 letS) := fn_ok F11 sc_is_let rfl rfl (fun _ h => stOf_loc h)
    ⟨B, fun h => (by cases h), fun h => (by cases h), fun x i h => (by cases h), (fns_cons ⟨_, f4, _, _, 1, rfl, PySem.W.mg_of X G a4, k4, b4, G4, by decide, (fun p hp => by cases hp)⟩ (fns_cons ⟨_, f3, _, _, 1, rfl, PySem.W.mg_of X G a3, k3, b3, G3, by decide, (fun p hp => by cases hp)⟩ fns_nil)), full_of (l := [rdyS, dueS]) rfl, XC, (fun d x h => (by cases h)), (fun c x ns h => (by cases h))⟩ ck_is_let (fun a _ => by first | exact rfl | (cases a <;> exact rfl)) (fun a h => w_is_let a.1.1 a.1.2 a.2.1 a.2.2.1 a.2.2.2 h.1 h.2.1 h.2.2.1 h.2.2.2.1 h.2.2.2.2)
  have G12 : FnOk P w K mg base (L2.CX P w) 1 f12 _ ["book"] (spOf K CT0 asS) := fn_ok F12 sc_all_standings rfl rfl (fun _ h => stOf_loc h)
    ⟨B, fun h => (by cases h), fun h => (by cases h), fun x i h => (by cases h), fns_nil, full_of (l := []) rfl, XC, (fun d x h => (by cases h)), (fun c x ns h => (by cases h))⟩ ck_all_standings (fun a _ => by first | exact rfl | (cases a <;> exact rfl)) (fun a h => w_all_standings a.1 a.2 h.1 h.2.1 h.2.2)
  have G13 : FnOk P w K mg base (L2.CX P w) 3 f13 _ [] (spOf K CT0 bS) := fn_ok F13 sc_l_named rfl rfl (fun _ h => stOf_loc h)
    ⟨B, fun h => (by cases h), fun h => (by cases h), fun x i h => (by cases h), (fns_cons ⟨_, f2, _, _, 1, rfl, PySem.W.mg_of X G a2, k2, b2, G2, by decide, (fun p hp e => by
      simp only [c_l_named, List.mem_cons, List.not_mem_nil, or_false] at hp
      rcases hp with rfl | rfl | rfl | rfl | rfl | rfl | rfl | rfl
      · exact fun s us ws _ hu hw => match us, hu, ws, hw with | [], _, [_], _ => .of_eq rfl
      · exact absurd e (by decide)
      · exact absurd e (by decide)
      · exact absurd e (by decide)
      · exact absurd e (by decide)
      · exact absurd e (by decide)
      · exact absurd e (by decide)
      · exact absurd e (by decide))⟩ (fns_cons ⟨_, f3, _, _, 1, rfl, PySem.W.mg_of X G a3, k3, b3, G3, by decide, (fun p hp e => by
      simp only [c_l_named, List.mem_cons, List.not_mem_nil, or_false] at hp
      rcases hp with rfl | rfl | rfl | rfl | rfl | rfl | rfl | rfl
      · exact absurd e (by decide)
      · exact fun s us ws _ hu hw => match us, hu, ws, hw with | [], _, [_, _], _ => .of_eq rfl
      · exact absurd e (by decide)
      · exact absurd e (by decide)
      · exact absurd e (by decide)
      · exact absurd e (by decide)
      · exact absurd e (by decide)
      · exact absurd e (by decide))⟩ (fns_cons ⟨_, f4, _, _, 1, rfl, PySem.W.mg_of X G a4, k4, b4, G4, by decide, (fun p hp e => by
      simp only [c_l_named, List.mem_cons, List.not_mem_nil, or_false] at hp
      rcases hp with rfl | rfl | rfl | rfl | rfl | rfl | rfl | rfl
      · exact absurd e (by decide)
      · exact absurd e (by decide)
      · exact fun s us ws _ hu hw => match us, hu, ws, hw with | [], _, [_, _], _ => .of_eq rfl
      · exact absurd e (by decide)
      · exact absurd e (by decide)
      · exact absurd e (by decide)
      · exact absurd e (by decide)
      · exact absurd e (by decide))⟩ (fns_cons ⟨_, f5, _, _, 1, rfl, PySem.W.mg_of X G a5, k5, b5, G5, by decide, (fun p hp e => by
      simp only [c_l_named, List.mem_cons, List.not_mem_nil, or_false] at hp
      rcases hp with rfl | rfl | rfl | rfl | rfl | rfl | rfl | rfl
      · exact absurd e (by decide)
      · exact absurd e (by decide)
      · exact absurd e (by decide)
      · exact fun s us ws _ hu hw => match us, hu, ws, hw with | [], _, [_, _], _ => .of_eq rfl
      · exact absurd e (by decide)
      · exact absurd e (by decide)
      · exact absurd e (by decide)
      · exact absurd e (by decide))⟩ (fns_cons ⟨_, f12, _, _, 1, rfl, PySem.W.mg_of X G a12, k12, b12, G12, by decide, (fun p hp e => by
      simp only [c_l_named, List.mem_cons, List.not_mem_nil, or_false] at hp
      rcases hp with rfl | rfl | rfl | rfl | rfl | rfl | rfl | rfl
      · exact absurd e (by decide)
      · exact absurd e (by decide)
      · exact absurd e (by decide)
      · exact absurd e (by decide)
      · exact fun s us ws _ hu hw => match us, hu, ws, hw with | [], _, [_], _ => .of_eq rfl
      · exact absurd e (by decide)
      · exact absurd e (by decide)
      · exact absurd e (by decide))⟩ (fns_cons ⟨_, f10, _, _, 1, rfl, PySem.W.mg_of X G a10, k10, b10, G10, by decide, (fun p hp e => by
      simp only [c_l_named, List.mem_cons, List.not_mem_nil, or_false] at hp
      rcases hp with rfl | rfl | rfl | rfl | rfl | rfl | rfl | rfl
      · exact absurd e (by decide)
      · exact absurd e (by decide)
      · exact absurd e (by decide)
      · exact absurd e (by decide)
      · exact absurd e (by decide)
      · exact absurd e (by decide)
      · exact absurd e (by decide)
      · exact absurd e (by decide))⟩ (fns_cons ⟨_, f7, _, _, 2, rfl, PySem.W.mg_of X G a7, k7, b7, G7, by decide, (fun p hp e => by
      simp only [c_l_named, List.mem_cons, List.not_mem_nil, or_false] at hp
      rcases hp with rfl | rfl | rfl | rfl | rfl | rfl | rfl | rfl
      · exact absurd e (by decide)
      · exact absurd e (by decide)
      · exact absurd e (by decide)
      · exact absurd e (by decide)
      · exact absurd e (by decide)
      · exact fun s us ws _ hu hw => match us, hu, ws, hw with | [], _, [_, _], _ => .of_eq rfl
      · exact absurd e (by decide)
      · exact absurd e (by decide))⟩ (fns_cons ⟨_, f9, _, _, 2, rfl, PySem.W.mg_of X G a9, k9, b9, G9, by decide, (fun p hp e => by
      simp only [c_l_named, List.mem_cons, List.not_mem_nil, or_false] at hp
      rcases hp with rfl | rfl | rfl | rfl | rfl | rfl | rfl | rfl
      · exact absurd e (by decide)
      · exact absurd e (by decide)
      · exact absurd e (by decide)
      · exact absurd e (by decide)
      · exact absurd e (by decide)
      · exact absurd e (by decide)
      · exact fun s us ws _ hu hw => match us, hu, ws, hw with | [], _, [_, _, _], _ => .of_eq rfl
      · exact absurd e (by decide))⟩ (fns_cons ⟨_, f11, _, _, 2, rfl, PySem.W.mg_of X G a11, k11, b11, G11, by decide, (fun p hp e => by
      simp only [c_l_named, List.mem_cons, List.not_mem_nil, or_false] at hp
      rcases hp with rfl | rfl | rfl | rfl | rfl | rfl | rfl | rfl
      · exact absurd e (by decide)
      · exact absurd e (by decide)
      · exact absurd e (by decide)
      · exact absurd e (by decide)
      · exact absurd e (by decide)
      · exact absurd e (by decide)
      · exact absurd e (by decide)
      · exact fun s us ws _ hu hw => match us, hu, ws, hw with | [], _, [_, _, _], _ => .of_eq rfl)⟩ fns_nil))))))))), full_of (l := [frS, dueS, rdyS, slS, asS, sameT, llS, nxS, letS]) rfl, XC, (fun d x h => (by cases h)), (fun c x ns h => (by cases h))⟩ ck_l_named (fun a _ => by first | exact rfl | (cases a <;> exact rfl)) (fun _ _ => w_l_named)
  have G14 : FnOk P w K mg base (L2.CX P w) 1 f14 _ ["tub", "many"] (spOf K CT0 takeS) := fn_ok F14 sc_l_take rfl rfl (fun _ h => stOf_loc h)
    ⟨B, fun h => (by cases h), fun h => (by cases h), fun x i h => (by cases h), fns_nil, full_of (l := []) rfl, XC, (fun d x h => (by cases h)), (fun c x ns h => (by cases h))⟩ ck_l_take (fun a _ => by first | exact rfl | (cases a <;> exact rfl)) (fun a h => w_l_take a.1 a.2 h.1 h.2.1 h.2.2)
  have G15 : FnOk P w K mg base (L2.CX P w) 2 f15 _ ["tub", "most"] (spOf K CT0 chS) := fn_ok F15 sc_l_chore rfl rfl (fun _ h => stOf_loc h)
    ⟨B, fun h => (by cases h), fun h => (by cases h), fun x i h => (by cases h), (fns_cons ⟨_, f14, _, _, 1, rfl, PySem.W.mg_of X G a14, k14, b14, G14, by decide, (fun p hp => by cases hp)⟩ fns_nil), full_of (l := [takeS]) rfl, XC, (fun d x h => (by cases h)), (fun c x ns h => (by cases h))⟩ ck_l_chore (fun a _ => by first | exact rfl | (cases a <;> exact rfl)) (fun a h => w_l_chore a.1 a.2 h.1 h.2.1 h.2.2)
  have G16 : FnOk P w K mg base (L2.CX P w) 3 f16 _ ["tub", "chores", "most", "days"] (spOf K CT0 bookS) := fn_ok F16 sc_l_book rfl rfl (fun _ h => stOf_loc h)
    ⟨B, fun h => (by cases h), fun h => (by cases h), fun x i h => (by cases h), (fns_cons ⟨_, f14, _, _, 1, rfl, PySem.W.mg_of X G a14, k14, b14, G14, by decide, (fun p hp => by cases hp)⟩ (fns_cons ⟨_, f15, _, _, 2, rfl, PySem.W.mg_of X G a15, k15, b15, G15, by decide, (fun p hp => by cases hp)⟩ fns_nil)), full_of (l := [takeS, chS]) rfl, XC, (fun d x h => (by cases h)), (fun c x ns h => (by cases h))⟩ ck_l_book (fun a _ => by first | exact rfl | (cases a <;> exact rfl)) (fun a h => w_l_book a.1 a.2.1 a.2.2.1 a.2.2.2 h.1 h.2.1 h.2.2.1 h.2.2.2.1 h.2.2.2.2.1 h.2.2.2.2.2.1 h.2.2.2.2.2.2)
  have G17 : FnOk P w K mg base (L2.CX P w) 4 f17 _ ["tub"] (spOf K CT0 smallS) := fn_ok F17 sc_l_small rfl rfl (fun _ h => stOf_loc h)
    ⟨B, fun h => (by cases h), fun h => (by cases h), fun x i h => (by cases h), (fns_cons ⟨_, f14, _, _, 1, rfl, PySem.W.mg_of X G a14, k14, b14, G14, by decide, (fun p hp => by cases hp)⟩ (fns_cons ⟨_, f16, _, _, 3, rfl, PySem.W.mg_of X G a16, k16, b16, G16, by decide, (fun p hp => by cases hp)⟩ fns_nil)), full_of (l := [takeS, bookS]) rfl, XC, (fun d x h => (by cases h)), (fun c x ns h => (by cases h))⟩ ck_l_small (fun a _ => by first | exact rfl | (cases a <;> exact rfl)) (fun a h => w_l_small a h)
  have G18 : FnOk P w K mg base (L2.CX P w) 1 f18 _ ["many"] (spOf K CT0 ltS) := fn_ok F18 sc_l_lots rfl rfl (fun _ h => stOf_loc h)
    ⟨B, fun h => (by cases h), fun h => (by cases h), fun x i h => (by cases h), fns_nil, full_of (l := []) rfl, XC, (fun d x h => (by cases h)), (fun c x ns h => (by cases h))⟩ ck_l_lots (fun a _ => by first | exact rfl | (cases a <;> exact rfl)) (fun a h => w_l_lots a h)
  have G19 : FnOk P w K mg base (L2.CX P w) 1 f19 _ ["book", "standing", "lot"] (spOf K CT0 letS) := fn_ok F19 sc_l_is_let rfl rfl (fun _ h => stOf_loc h)
    ⟨B, fun h => (by cases h), fun h => (by cases h), fun x i h => (by cases h), fns_nil, full_of (l := []) rfl, XC, (fun d x h => (by cases h)), (fun c x ns h => (by cases h))⟩ ck_l_is_let (fun a _ => by first | exact rfl | (cases a <;> exact rfl)) (fun a h => w_l_is_let a.1.1 a.1.2 a.2.1 a.2.2.1 a.2.2.2 h.1 h.2.1 h.2.2.1 h.2.2.2.1 h.2.2.2.2)
  have G20 : FnOk P w K mg base (L2.CX P w) 1 f20 _ ["book", "standing", "lot"] (spOf K CT0 nxS) := fn_ok F20 sc_l_next rfl rfl (fun _ h => stOf_loc h)
    ⟨B, fun h => (by cases h), fun h => (by cases h), fun x i h => (by cases h), fns_nil, full_of (l := []) rfl, XC, (fun d x h => (by cases h)), (fun c x ns h => (by cases h))⟩ ck_l_next (fun a _ => by first | exact rfl | (cases a <;> exact rfl)) (fun a h => w_l_next a.1.1 a.1.2 a.2.1 a.2.2.1 a.2.2.2 h.1 h.2.1 h.2.2)
  have G21 : FnOk P w K mg base (L2.CX P w) 3 f21 _ ["tub", "book", "standing"] (spOf K CT0 lookS) := fn_ok F21 sc_l_looked rfl rfl (fun _ h => stOf_loc h)
    ⟨B, fun h => (by cases h), fun h => (by cases h), fun x i h => (by cases h), (fns_cons ⟨_, f3, _, _, 1, rfl, PySem.W.mg_of X G a3, k3, b3, G3, by decide, (fun p hp => by cases hp)⟩ (fns_cons ⟨_, f4, _, _, 1, rfl, PySem.W.mg_of X G a4, k4, b4, G4, by decide, (fun p hp => by cases hp)⟩ (fns_cons ⟨_, f5, _, _, 1, rfl, PySem.W.mg_of X G a5, k5, b5, G5, by decide, (fun p hp => by cases hp)⟩ (fns_cons ⟨_, f10, _, _, 1, rfl, PySem.W.mg_of X G a10, k10, b10, G10, by decide, (fun p hp => by cases hp)⟩ (fns_cons ⟨_, f18, _, _, 1, rfl, PySem.W.mg_of X G a18, k18, b18, G18, by decide, (fun p hp => by cases hp)⟩ (fns_cons ⟨_, f19, _, _, 1, rfl, PySem.W.mg_of X G a19, k19, b19, G19, by decide, (fun p hp => by cases hp)⟩ (fns_cons ⟨_, f7, _, _, 2, rfl, PySem.W.mg_of X G a7, k7, b7, G7, by decide, (fun p hp => by cases hp)⟩ (fns_cons ⟨_, f14, _, _, 1, rfl, PySem.W.mg_of X G a14, k14, b14, G14, by decide, (fun p hp => by cases hp)⟩ (fns_cons ⟨_, f11, _, _, 2, rfl, PySem.W.mg_of X G a11, k11, b11, G11, by decide, (fun p hp => by cases hp)⟩ (fns_cons ⟨_, f9, _, _, 2, rfl, PySem.W.mg_of X G a9, k9, b9, G9, by decide, (fun p hp => by cases hp)⟩ (fns_cons ⟨_, f20, _, _, 1, rfl, PySem.W.mg_of X G a20, k20, b20, G20, by decide, (fun p hp => by cases hp)⟩ fns_nil))))))))))), full_of (l := [dueS, rdyS, slS, sameT, ltS, letS, llS, takeS, letS, nxS, nxS]) rfl, XC, (fun d x h => (by cases h)), (fun c x ns h => (by cases h))⟩ ck_l_looked (fun a _ => by first | exact rfl | (cases a <;> exact rfl)) (fun a h => w_l_looked a.1 a.2.1.1 a.2.1.2 a.2.2.1 a.2.2.2 h.1 h.2.1 h.2.2.1 h.2.2.2)
  have G22 : FnOk P w K mg base (L2.CX P w) 2 f22 _ ["tub", "book"] (spOf K CT0 stdS) := fn_ok F22 sc_l_standing rfl rfl (fun _ h => stOf_loc h)
    ⟨B, fun h => (by cases h), fun h => (by cases h), fun x i h => (by cases h), (fns_cons ⟨_, f14, _, _, 1, rfl, PySem.W.mg_of X G a14, k14, b14, G14, by decide, (fun p hp => by cases hp)⟩ fns_nil), full_of (l := [takeS]) rfl, XC, (fun d x h => (by cases h)), (fun c x ns h => (by cases h))⟩ ck_l_standing (fun a _ => by first | exact rfl | (cases a <;> exact rfl)) (fun a h => w_l_standing a.1 a.2.1 a.2.2 h.1 h.2.1 h.2.2)
  have G23 : FnOk P w K mg base (L2.CX P w) 5 fa _ ["script"] (spOf K CT0 lawS) := fn_ok F23 sc_law rfl rfl (fun _ h => stOf_loc h)
    ⟨B, fun h => (by cases h), fun h => (by cases h), fun x i h => (by cases h), (fns_cons ⟨_, f0, _, _, 1, rfl, PySem.W.mg_of X G a0, k0, b0, G0, by decide, (fun p hp => by cases hp)⟩ (fns_cons ⟨_, f13, _, _, 3, rfl, PySem.W.mg_of X G a13, k13, b13, G13, by decide, (fun p hp => by cases hp)⟩ (fns_cons ⟨_, f17, _, _, 4, rfl, PySem.W.mg_of X G a17, k17, b17, G17, by decide, (fun p hp => by cases hp)⟩ (fns_cons ⟨_, f1, _, _, 1, rfl, PySem.W.mg_of X G a1, k1, b1, G1, by decide, (fun p hp => by cases hp)⟩ (fns_cons ⟨_, f2, _, _, 1, rfl, PySem.W.mg_of X G a2, k2, b2, G2, by decide, (fun p hp => by cases hp)⟩ (fns_cons ⟨_, f10, _, _, 1, rfl, PySem.W.mg_of X G a10, k10, b10, G10, by decide, (fun p hp => by cases hp)⟩ (fns_cons ⟨_, f12, _, _, 1, rfl, PySem.W.mg_of X G a12, k12, b12, G12, by decide, (fun p hp => by cases hp)⟩ (fns_cons ⟨_, f14, _, _, 1, rfl, PySem.W.mg_of X G a14, k14, b14, G14, by decide, (fun p hp => by cases hp)⟩ (fns_cons ⟨_, f21, _, _, 3, rfl, PySem.W.mg_of X G a21, k21, b21, G21, by decide, (fun p hp => by cases hp)⟩ (fns_cons ⟨_, f16, _, _, 3, rfl, PySem.W.mg_of X G a16, k16, b16, G16, by decide, (fun p hp => by cases hp)⟩ (fns_cons ⟨_, f22, _, _, 2, rfl, PySem.W.mg_of X G a22, k22, b22, G22, by decide, (fun p hp => by cases hp)⟩ fns_nil))))))))))), full_of (l := [tubS, bS, smallS, asS, frS, sameT, asS, takeS, lookS, bookS, stdS]) rfl, XC, (fun d x h => (by cases h)), (fun c x ns h => (by cases h))⟩ ck_law (fun a _ => by first | exact rfl | (cases a <;> exact rfl)) (fun a _ => w_law a)
  exact G23
end GL
open PySem PySem.W PyProof.Rows
set_option maxHeartbeats 0 in
theorem PySem.Challenge.cw_nogapmissed_k03_standings_lots_holds : PySem.Challenge.rw_nogapmissed_k03_standings_lots.Holds := by
  w_on; o_law; k_head; (case hw => w_witness2)
  k_fill
  refine L2.walk_of (l := PySem.Challenge.rw_nogapmissed_k03_standings_lots) (n := 63) (k := 5) (x := "script") (CX := fun w => L2.CX PySem.Challenge.rw_nogapmissed_k03_standings_lots.prog w) (sp := fun w => GM.spOf _ GL.CT0 GL.lawS) rfl (by decide) rfl ⟨rfl, by decide, by decide⟩ (fun w h Y => PySem.W.kIn_of Y) ?F (fun _ H a ns hl _ hS => GL.end_sp hS hl) (fun _ _ _ _ _ (h : L2.CX _ _ _ _ _ _ _ _) => by
    obtain ⟨_, _, _, _, _, _, _, _, _, _, _, _, z⟩ := h
    exact z)
  case F =>
    intro w mg fa h KX G hmg
    refine' GL.all_mk KX G hmg ?a0 ?l0 ?c0 ?k0 ?a1 ?l1 ?c1 ?k1 ?a2 ?l2 ?c2 ?k2 ?a3 ?l3 ?c3 ?k3 ?a4 ?l4 ?c4 ?k4 ?a5 ?l5 ?c5 ?k5 ?a6 ?l6 ?c6 ?k6 ?a7 ?l7 ?c7 ?k7 ?a8 ?l8 ?c8 ?k8 ?a9 ?l9 ?c9 ?k9 ?a10 ?l10 ?c10 ?k10 ?a11 ?l11 ?c11 ?k11 ?a12 ?l12 ?c12 ?k12 ?a13 ?l13 ?c13 ?k13 ?a14 ?l14 ?c14 ?k14 ?a15 ?l15 ?c15 ?k15 ?a16 ?l16 ?c16 ?k16 ?a17 ?l17 ?c17 ?k17 ?a18 ?l18 ?c18 ?k18 ?a19 ?l19 ?c19 ?k19 ?a20 ?l20 ?c20 ?k20 ?a21 ?l21 ?c21 ?k21 ?a22 ?l22 ?c22 ?k22 ?a23 ?l23 ?c23 ?k23 ?z0 ?z1 ?z2 ?z3 ?z4 ?z5 ?z6 ?z7 ?z8 ?z9 ?z10 ?z11 ?z12 ?z13 ?z14 ?z15 ?z16 ?z17
    (case a0 => k_is); (case l0 => k_is); (case c0 => k_is); (case k0 => k_is); (case a1 => k_is); (case l1 => k_is); (case c1 => k_is); (case k1 => k_is); (case a2 => k_is); (case l2 => k_is); (case c2 => k_is); (case k2 => k_is); (case a3 => k_is); (case l3 => k_is); (case c3 => k_is); (case k3 => k_is); (case a4 => k_is); (case l4 => k_is); (case c4 => k_is); (case k4 => k_is); (case a5 => k_is); (case l5 => k_is); (case c5 => k_is); (case k5 => k_is); (case a6 => k_is); (case l6 => k_is); (case c6 => k_is); (case k6 => k_is); (case a7 => k_is); (case l7 => k_is); (case c7 => k_is); (case k7 => k_is); (case a8 => k_is); (case l8 => k_is); (case c8 => k_is); (case k8 => k_is); (case a9 => k_is); (case l9 => k_is); (case c9 => k_is); (case k9 => k_is); (case a10 => k_is); (case l10 => k_is); (case c10 => k_is); (case k10 => k_is); (case a11 => k_is); (case l11 => k_is); (case c11 => k_is); (case k11 => k_is); (case a12 => k_is); (case l12 => k_is); (case c12 => k_is); (case k12 => k_is); (case a13 => k_is); (case l13 => k_is); (case c13 => k_is); (case k13 => k_is); (case a14 => k_is); (case l14 => k_is); (case c14 => k_is); (case k14 => k_is); (case a15 => k_is); (case l15 => k_is); (case c15 => k_is); (case k15 => k_is); (case a16 => k_is); (case l16 => k_is); (case c16 => k_is); (case k16 => k_is); (case a17 => k_is); (case l17 => k_is); (case c17 => k_is); (case k17 => k_is); (case a18 => k_is); (case l18 => k_is); (case c18 => k_is); (case k18 => k_is); (case a19 => k_is); (case l19 => k_is); (case c19 => k_is); (case k19 => k_is); (case a20 => k_is); (case l20 => k_is); (case c20 => k_is); (case k20 => k_is); (case a21 => k_is); (case l21 => k_is); (case c21 => k_is); (case k21 => k_is); (case a22 => k_is); (case l22 => k_is); (case c22 => k_is); (case k22 => k_is); (case a23 => k_is); (case l23 => k_is); (case c23 => k_is); (case k23 => k_is); (case z0 => k_is); (case z1 => k_is); (case z2 => k_is); (case z3 => k_is); (case z4 => k_is); (case z5 => k_is); (case z6 => k_is); (case z7 => k_is); (case z8 => k_is); (case z9 => k_is); (case z10 => k_is); (case z11 => k_is); (case z12 => k_is); (case z13 => k_is); (case z14 => k_is); (case z15 => k_is); (case z16 => k_is); (case z17 => k_is)
