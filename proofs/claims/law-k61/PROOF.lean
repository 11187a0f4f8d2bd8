import PyProof.Rows.All
import Wide.All
import OpenK.AllK
import Wide.FinOn
import PyProof.ReprRoads
import KE.KTupSum
import KE.GoesNew
import HandS.ForMost
import HandS.Exc
import HandS.Walk
import HandS.Zip
import HandS.Star
import HandS.SortRule
import HandS.Strs
import HandS.IsInst
import HandS.Style
import HandS.ForExc
import HandS.Wide
import HandS.Defaults
import KE.KExcSuper
import KE.KTypeName
import HandS.ExcIs
import HandS.Sort
import HandS.More
import HandS.OwnEq
import HandS.Lambda
import KE.KExcIs
import HandS.ExcField
import HandS.ExcValue
import HandS.EndTab
import HandS.HeadWalk
import KE.KNestM
import HandS.HeadHook1
import HandS.HeadHook2
import HandS.HeadHook3
import HandS.HeadHook4
import HandS.Head0
import HandS.Head1
import HandS.Head2
import KE.KStateDown
import Lean
import HandS.HeadEnd
import PySem.Challenge.RW_ropesays_k61_whole_whites_and_blacks
set_option Elab.async false
set_option linter.all false
set_option maxRecDepth 100000
set_option maxHeartbeats 4000000
/-! Rules of our own over the layer: repr of data, a slice by a step, an item's place in a tuple, in a range by a step, the sum of a tuple's ints. -/
namespace K61
open PySem PySem.Spec PyProof.Rows L2
section
variable {X : Cx}
/-! ### repr -/
def rRep (K : PySem.W.Frag) : List V → Hp → VK → Prop := fun xs H Q => ∃ (a : Addr) (d : PyData), xs = [.ref a] ∧ Dp K H (.ref a) d ∧ d.showable = true ∧ d.hasDict = false ∧ d.depth ≤ 40 ∧ d.shown.length ≤ sizeLine ∧ Q (.str d.shown) H
theorem call_rep (hg : X.A.guards = some []) (hu : X.A.units + 64 < cLine) : CallR X (.builtin "repr") (rRep X.K) := by
  intro pins s σ H xs us Q I r h
  obtain ⟨a, d, rfl, hd, h1, h2, h3, h4, q⟩ := h
  obtain ⟨u, rfl, ru⟩ := vals1 r
  obtain ⟨as, hr⟩ := Dp.reads I d (.ref a) u hd ru
  obtain rfl : u = Value.ref a := ru
  refine repr_of_reads' hr h1 (fun z => by rw [h2] at z; cases z) hg (by omega) (fun _ _ e => e) (fun h' t tk k => ?_) h4
  exact ⟨.str d.shown, H, I.kept k, ⟨_, rfl⟩, q⟩
/-! ### sum of a tuple of ints -/
def rSumT (K : PySem.W.Frag) : List V → Hp → VK → Prop := fun vs H Q => ∃ (a : Addr) (ns : List Int), vs = [V.ref a] ∧ SqT K H a (ns.map V.int) ∧ Q (.int ns.sum) H
theorem cr_sumT (hc : X.calm = true) : CallR X (.builtin "sum") (rSumT X.K) := by
  intro pins s σ H vs us Q I r h
  obtain ⟨a, ns, rfl, hs, q⟩ := h
  obtain ⟨its, rv, hl, _⟩ := I.tuple hs
  rw [Vals.ref1 r]
  have hi : IntsAre its ns := rv.ints
  obtain ⟨xs, e⟩ := hi.allInts.items
  have hn : numsOf (intItems xs).toList = ns := by
    rw [← e]
    exact hi.numsOf
  rw [nums_intItems] at hn
  rw [e] at hl
  refine PySem.W.ktm_sumG (I.ok.hd hc) hl fun h' tk t' hk => ?_
  rw [preSum_eq, List.take_of_length_le (by simp), hn]
  exact ⟨.int _, H, I.kept hk, ⟨_, rfl⟩, q⟩
/-! ### t.index(n), ints -/
theorem mt_tixI : MtR X "tuple.index" (fun x xs H Q => ∃ (p : Addr) (ys : List Int) (z : Int) (j : Nat), x = .ref p ∧ xs = [.int z] ∧ SqT X.K H p (ys.map V.int) ∧ ys[j]? = some z ∧ (∀ m, m < j → ys[m]? ≠ some z) ∧ Q (.int (j : Nat)) H) := by
  intro pins s σ H x xs v us Q I rx rs h
  obtain ⟨p, ys, z, j, rfl, rfl, hq, hy, hno, q⟩ := h
  cases rx
  obtain ⟨u, rfl, t, rfl⟩ := vals1 rs
  obtain ⟨its, r, ⟨⟨cls, dd, dt, sl⟩, ho, hc, n, hd⟩, hz⟩ := I.tuple hq
  simp only at hc hd
  subst hc hd
  have hl : its.toArray.size = ys.length := by
    rw [List.size_toArray, ← r.length, List.length_map]
  have hj : j < its.toArray.size := by
    rw [hl]
    exact (List.getElem?_eq_some_iff.mp hy).1
  have look : ∀ (m : Nat) (hm : m < its.toArray.size), ∃ y t', ys[m]? = some y ∧ its.toArray[m] = Value.int y t' := fun m hm => by
    have hm' : m < ys.length := by
      rw [← hl]
      exact hm
    obtain ⟨w, hw, t', hw'⟩ := r.get (i := m) (x := .int ys[m]) (by simp [hm'])
    refine ⟨ys[m], t', by simp [hm'], ?_⟩
    obtain ⟨_, h1⟩ := List.getElem?_eq_some_iff.mp hw
    simp only [List.getElem_toArray, h1]
    exact hw'
  have ff : (ys.map V.int).all flatV = true := by
    rw [List.all_map]
    exact List.all_eq_true.mpr fun _ _ => rfl
  have rz : RelV (.int z) (.int z t) := ⟨t, rfl⟩
  refine call_meets PySem.F.slot_tuple_index ⟨_, ho, rfl⟩ PySem.F.entry_tuple_index (PySem.F.args_tuple_index_2 _ _) (TI.tuple_indexAt p its.toArray n dd sl (.int z t) (eqU (.int z)) j hj ?_ ?_) ⟨ho, fun w hw => mem_eqAt rz rfl r ff w (by simpa using hw), ?_⟩
  · obtain ⟨y, t', e1, e2⟩ := look j hj
    rw [hy] at e1
    cases e1
    rw [e2, eqU_of (x := .int z) (y := .int z) (show RelV (.int z) (.int z t') from ⟨t', rfl⟩) rfl]
    simp [eqV]
  · intro m hm hmj
    obtain ⟨y, t', e1, e2⟩ := look m hm
    rw [e2, eqU_of (x := .int z) (y := .int y) (show RelV (.int y) (.int y t') from ⟨t', rfl⟩) rfl]
    have ne := hno m hmj
    rw [e1] at ne
    simp only [eqV, beq_eq_false_iff_ne, ne_eq]
    intro z'
    exact ne (by rw [z'])
  · exact ⟨.int (j : Nat), H, I.tok _, ⟨_, rfl⟩, q⟩
end
end K61

set_option Elab.async false
set_option linter.all false
set_option maxRecDepth 100000
set_option maxHeartbeats 4000000
/-! Rules of our own: a tuple's every second item. -/
namespace K61
open PySem PySem.Spec PyProof.Rows L2
def evens {α : Type} : List α → List α
  | [] => []
  | [x] => [x]
  | x :: _ :: r => x :: evens r
theorem evens_len {α : Type} : ∀ l : List α, (evens l).length = (l.length + 1) / 2
  | [] => by simp [evens]
  | [_] => by simp [evens]
  | x :: y :: r => by
    show (evens r).length + 1 = (r.length + 1 + 1 + 1) / 2
    rw [evens_len r]
    omega
theorem evens_get {α : Type} : ∀ (l : List α) (k : Nat), (evens l)[k]? = l[2 * k]?
  | [], k => by simp [evens]
  | [x], 0 => rfl
  | [x], k + 1 => by simp [evens, Nat.mul_add]
  | x :: y :: r, 0 => rfl
  | x :: y :: r, k + 1 => by
    show (x :: evens r)[k + 1]? = (x :: y :: r)[2 * (k + 1)]?
    rw [List.getElem?_cons_succ, evens_get r k, show 2 * (k + 1) = 2 * k + 1 + 1 by omega, List.getElem?_cons_succ, List.getElem?_cons_succ]
theorem filterMap_get {α : Type} (l : List α) : ∀ (m : Nat) (f : Nat → Nat) (r : List α), r.length = m → (∀ k, k < m → l[f k]? = r[k]?) → (List.range m).filterMap (fun k => l[f k]?) = r := by
  intro m f r hr h
  have e : (List.range m).map (fun k => l[f k]?) = r.map some := by
    apply List.ext_getElem?
    intro k
    rw [List.getElem?_map, List.getElem?_map]
    by_cases hk : k < m
    · rw [List.getElem?_range hk, Option.map_some, h k hk, List.getElem?_eq_getElem (by omega)]
      rfl
    · rw [List.getElem?_eq_none (by simpa using hk), List.getElem?_eq_none (by omega)]
      rfl
  have e2 : (List.range m).filterMap (fun k => l[f k]?) = ((List.range m).map (fun k => l[f k]?)).filterMap id := by
    rw [List.filterMap_map]
    rfl
  rw [e2, e, List.filterMap_map]
  exact List.filterMap_some
theorem pick2_eq (l : List Value) (a : Nat) : ((List.range ((l.length - a + 1) / 2)).filterMap fun (k : Nat) => l[a + 2 * k]?) = evens (l.drop a) := by
  refine filterMap_get l _ (fun k => a + 2 * k) _ ?_ fun k hk => ?_
  · rw [evens_len, List.length_drop]
  · rw [evens_get, List.getElem?_drop]
theorem vals_evens : ∀ {xs : List V} {us : List Value}, Vals xs us → Vals (evens xs) (evens us)
  | [], _, .nil => .nil
  | [_], _, .cons r .nil => .cons r .nil
  | _ :: _ :: _, _, .cons r (.cons _ t) => .cons r (vals_evens t)
section
variable {prog : Program} {w : World} {A : Around} {E : Value → Shared → Prop} {s : Shared}
theorem applied_two {sl : Addr} {vl vs : Value} {a n : Nat} {Q : Int × Int × Nat → Shared → Prop} (hs : s.heap.IsSliceOf sl vl .none vs) (pl : IsPart vl (some (a : Int))) (ps : IsPart vs (some 2)) (ha : a ≤ n)
    (h : Q ((a : Int), 2, (n - a + 1) / 2) s) : wpAny (model prog w) A (Builtin.Slice.sliceApplied (.ref sl) (pure (n : Int))) Q E s := by
  obtain ⟨os, hos, _, hds⟩ := id hs
  unfold Builtin.Slice.sliceApplied Builtin.Slice.sliceFields
  refine wpAny_bind (wpAny_bind (wpAny_field hos hds (x := vl) rfl (wpAny_bind (wpAny_field hos hds (x := .none) rfl (wpAny_bind (wpAny_field hos hds (x := vs) rfl (wpAny_pure ?_)))))))
  refine wpAny_bind (HT.slicePart_ ps ?_)
  show wpAny _ _ (if ((2 : Int) == 0) = true then _ else _) _ _ s
  rw [if_neg (by decide)]
  refine wpAny_bind (HT.slicePart_ pl (wpAny_bind (HT.slicePart_ IsPart.none (wpAny_bind (wpAny_pure ?_)))))
  have e1 : Builtin.Slice.sliceAdjust (some (a : Int)) none 2 (n : Int) = ((a : Int), (n : Int)) := by
    unfold Builtin.Slice.sliceAdjust
    simp only [show ¬ ((2 : Int) < 0) by omega, if_false, show ¬ ((a : Int) < 0) by omega]
    refine Prod.ext ?_ rfl
    show min (a : Int) (n : Int) = (a : Int)
    omega
  have e2 : Builtin.Slice.slicePlaces (a : Int) (n : Int) 2 = (n - a + 1) / 2 := by
    unfold Builtin.Slice.slicePlaces
    simp only [show (2 : Int) > 0 by omega, if_true]
    split <;> omega
  show wpAny _ _ (match Builtin.Slice.sliceAdjust (some (a : Int)) none 2 (n : Int) with | (lo, hi) => pure (lo, (2 : Int), Builtin.Slice.slicePlaces lo hi 2)) _ _ s
  rw [e1]
  show wpAny _ _ (pure ((a : Int), (2 : Int), Builtin.Slice.slicePlaces (a : Int) (n : Int) 2)) _ _ s
  rw [e2]
  exact wpAny_pure h
theorem getTup_two {t sl : Addr} {its : List Value} {vl vs : Value} {a : Nat} {Q : Value → Shared → Prop} (ht : IsTup s.heap t its.toArray) (hs : s.heap.IsSliceOf sl vl .none vs) (pl : IsPart vl (some (a : Int))) (ps : IsPart vs (some 2)) (ha : a ≤ its.length)
    (hz : its.length ≤ sizeLine) (h : Q (.ref s.heap.objs.size) { s with heap := s.heap.push { cls := .type "tuple", data := .seq (evens (its.drop a)).toArray } }) : wpAny (model prog w) A (getItem (.ref t) (.ref sl)) Q E s := by
  have hno : ¬ ((((a : Int)) == 0 && (2 : Int) == 1 && (its.length - a + 1) / 2 == its.toArray.size) = true) := by
    intro q
    rw [Bool.and_eq_true, Bool.and_eq_true] at q
    exact absurd q.1.2 (by decide)
  have hok : sizeOk (.seq (evens (its.drop a)).toArray) := by
    show (evens (its.drop a)).toArray.size ≤ sizeLine
    rw [List.size_toArray, evens_len, List.length_drop]
    omega
  obtain ⟨os, hos, hcs, _⟩ := id hs
  have hTs : s.TypeIs (.ref sl) "slice" := ⟨os, hos, hcs⟩
  unfold getItem
  try with_reducible refine wpAny_holding ?_
  first | refine wpAny_bind (wpAny_pure ?_) | skip
  refine wpAny_bind (wpAny_sequenceKey ht.typeIs (by decide) ?_)
  refine wpAny_bind (wpAny_callSpecial?_slot (name := Str.ofString "__getitem__") ht.typeIs PyProof.Rows.slot_tuple_getitem (wpAny_call_entry PyProof.Rows.slot_tuple_getitem ht.typeIs entry_tuple_getitem ?_ (args_tuple_getitem _ _)))
  show wpAny _ _ (Builtin.Tuple.tupleItemsOf (.ref t) >>= _) _ _ s
  refine wpAny_bind (tupleItemsOf_ ht ?_)
  refine wpAny_bind (wpAny_typeOf hTs ?_)
  rw [if_pos (by decide)]
  rw [List.size_toArray]
  refine wpAny_bind (applied_two hs pl ps ha ?_)
  rw [List.size_toArray] at hno
  show wpAny _ _ (if (((a : Int)) == 0 && (2 : Int) == 1 && (its.length - a + 1) / 2 == its.length) = true then _ else _) _ _ s
  rw [if_neg hno]
  have e : ((List.range ((its.length - a + 1) / 2)).filterMap fun (k : Nat) => its.toArray[((a : Int) + (k : Int) * 2).toNat]?) = evens (its.drop a) := by
    rw [← pick2_eq]
    congr 1
    funext k
    rw [List.getElem?_toArray]
    congr 1
    omega
  rw [e]
  first
    | exact wpAny_bind (m := Builtin.Tuple.tupleExact _) (wpAny_newObj_type (wpAny_pure ⟨_, rfl, wpAny_pure h⟩) hok)
    | exact wpAny_bind (m := Builtin.Tuple.tupleExact _) (wpAny_newObj_type (wpAny_bind (wpAny_pure (wpAny_pure ⟨_, rfl, wpAny_pure h⟩))) hok)
    | exact wpAny_bind (wpAny_bind (m := Builtin.Tuple.tupleExact _) (wpAny_newObj_type (wpAny_pure (wpAny_pure ⟨_, rfl, wpAny_pure h⟩)) hok))
    | exact wpAny_bind (wpAny_bind (m := Builtin.Tuple.tupleExact _) (wpAny_newObj_type (wpAny_pure ⟨_, rfl, wpAny_pure h⟩) hok))
end
/-- t[a::2], a a written place within -/
def tEv (K : PySem.W.Frag) (a : Nat) (te : TE) : TE := fun σ H Q => te σ H fun x H1 => ∃ p xs, x = .ref p ∧ SqT K H1 p xs ∧ a ≤ xs.length ∧ ∀ q, H1 q = none → Q (.ref q) (upd H1 q (.tup (evens (xs.drop a))))
theorem pe_ev {X : Cx} (a : Nat) {e : Expr} {te : TE} {k1 k2 : Nat} {p1 p2 p3 pos : Pos} (he : PE X e te) : PE X (.Subscript e (.Slice (some (.Constant (.int (a : Int)) k1 p1)) none (some (.Constant (.int 2) k2 p2)) p3) pos) (tEv X.K a te) := by
  refine ⟨fun pins s σ H Q I h => ?_⟩
  refine Subscript_ (thn (he.run pins s σ H _ I h) fun v s1 ⟨x, H1, I1, r1, q1⟩ => ?_)
  obtain ⟨p, xs, ex, hx, ha, q⟩ := q1
  subst ex
  cases r1
  have p1' : PO X (some (.Constant (.int (a : Int)) k1 p1)) (tPart (tC (.int (a : Int)))) := po_some pe_int
  have p2' : PO X (some (.Constant (.int 2) k2 p2)) (tPart (tC (.int 2))) := po_some pe_int
  refine wpAny_Slice (thn (p1'.run pins s1 σ H1 (fun o H2 => o = some (a : Int) ∧ H2 = H1) I1 ⟨_, rfl, rfl, rfl⟩) fun vl s2 ⟨o2, H2, I2, pl, e2, e2'⟩ => ?_)
  subst e2 e2'
  refine thn (po_none.run pins s2 σ H2 (fun o H3 => o = none ∧ H3 = H2) I2 ⟨rfl, rfl⟩) fun vu s3 ⟨o3, H3, I3, pu, e3, e3'⟩ => ?_
  subst e3 e3'
  refine thn (p2'.run pins s3 σ H3 (fun o H4 => o = some 2 ∧ H4 = H3) I3 ⟨_, rfl, rfl, rfl⟩) fun vs s4 ⟨o4, H4, I4, ps, e4, e4'⟩ => ?_
  subst e4 e4'
  cases pu
  have I5 : Inv X pins σ H4 { s4 with heap := s4.heap.push { cls := .type "slice", data := .fields #[vl, .none, vs] } } := I4.kept (t' := s4.toks) fun b ob z => Heap.get?_push_of_some _ z
  obtain ⟨its, r, ht, hz⟩ := I5.tuple hx
  have hlen := r.length
  show wpAny (model X.prog X.w) X.A (subscriptTail e (.Slice (some (.Constant (.int (a : Int)) k1 p1)) none (some (.Constant (.int 2) k2 p2)) p3) (.ref p) (.ref s4.heap.objs.size)) (EP X pins σ Q) X.xe { s4 with heap := s4.heap.push { cls := .type "slice", data := .fields #[vl, .none, vs] } }
  refine tail_any (ops := [.ref p, .ref s4.heap.objs.size]) ht.typeIs PyProof.Rows.slot_tuple_getitem.lookup ?_ (by with_unfolding_all rfl)
  refine getTup_two ht (Heap.IsSliceOf.new _ vl .none vs) pl ps (by omega) (by omega) ?_
  refine ⟨.ref _, _, I5.laid (t' := s4.toks) (o := .tup (evens (xs.drop a))) (fun b ob z => Heap.get?_push_of_some _ z) (Nat.le_refl _) ?_, rfl, q _ (I5.hok.fresh (Nat.le_refl _))⟩
  refine ⟨?_, _, vals_evens (r.drop a), IsTup.new _ _⟩
  rw [evens_len, List.length_drop]
  omega
end K61

set_option Elab.async false
set_option linter.all false
set_option maxRecDepth 100000
set_option maxHeartbeats 4000000
/-! Rules of our own: enumerate of a tuple, zip of a list and a tuple, zip of two tuples of unlike lengths. -/
namespace K61
open PySem PySem.Spec PyProof.Rows L2 RZ
/-! ### enumerate(t) -/
theorem enumNewT {tp : Addr} {items : Array Value} :
    Meets (Builtin.«enumerate.__new__» ⟨[.type "enumerate", .ref tp], []⟩) (fun _ R s => s.heap.IsTuple tp items ∧ R (.ok (.ret (.ref (s.heap.push { cls := .type "tuple_iterator", data := .fields #[.ref tp, .int 0 0] }).objs.size)))
        { s with heap := (s.heap.push { cls := .type "tuple_iterator", data := .fields #[.ref tp, .int 0 0] }).push { cls := .type "enumerate", data := .fields #[.none, .bool false, .ref s.heap.objs.size, rawInt 0, .none, .none] } }) :=
  .of_wp fun prog w A R s hh => by
    obtain ⟨hp, gs, dr, tk, os⟩ := s
    obtain ⟨hT, fin⟩ := hh
    have sub := sub_enumerate
    have it : ∀ {A' : Around} {E' : Value → Shared → Prop} {Q' : Value → Shared → Prop}, Q' (.ref hp.objs.size) ⟨hp.push { cls := .type "tuple_iterator", data := .fields #[.ref tp, .int 0 0] }, gs, dr, tk, os⟩ → wpAny (model prog w) A' (pyIter (.ref tp)) Q' E' ⟨hp, gs, dr, tk, os⟩ := fun q => wpAny_pyIter_tuple (s := ⟨hp, gs, dr, tk, os⟩) hT q
    wp_walk using it
    refine wpAny_stack_any fun st => wpAny_pure ?_
    split
    · rename_i c _ _ _ _ _
      cases (c == Value.type "enumerate")
      · wp_walk using it
        exact ⟨_, rfl, fin⟩
      · wp_walk using it
        exact ⟨_, rfl, fin⟩
    · wp_walk using it
      exact ⟨_, rfl, fin⟩
section
variable {prog : Program} {w : World} {A : Around} {E : Value → Shared → Prop} {s : Shared}
theorem call_enumT {tp : Addr} {items : Array Value} {Q : Value → Shared → Prop} (hT : s.heap.IsTuple tp items)
    (fin : ∀ h', IsEnum h' (s.heap.objs.size + 1) s.heap.objs.size 0 .none → h'.IsTupleIter s.heap.objs.size tp 0 → (∀ b o, s.heap.get? b = some o → h'.get? b = some o) → Q (.ref (s.heap.objs.size + 1)) { s with heap := h' }) :
    wpAny (model prog w) A (call (.type "enumerate") [.ref tp]) Q E s := by
  refine callType_new F.called_enumerate (by decide) (F.typeCall_enumerate_1 _) (F.newCall_enumerate_1 _) (fun obj => F.args_object_init_2 obj _) F.entry_enumerate_new (enumNewT (tp := tp) (items := items)) ⟨hT, ?_⟩
  have z : (s.heap.push { cls := .type "tuple_iterator", data := .fields #[.ref tp, .int 0 0] }).objs.size = s.heap.objs.size + 1 := Heap.size_push ..
  show _ ∧ _
  rw [z]
  have g := Heap.get?_push_size (s.heap.push { cls := .type "tuple_iterator", data := .fields #[.ref tp, .int 0 0] }) (o := { cls := .type "enumerate", data := .fields #[.none, .bool false, .ref s.heap.objs.size, rawInt 0, .none, .none] }) rfl
  rw [z] at g
  have en : IsEnum ((s.heap.push { cls := .type "tuple_iterator", data := .fields #[.ref tp, .int 0 0] }).push { cls := .type "enumerate", data := .fields #[.none, .bool false, .ref s.heap.objs.size, rawInt 0, .none, .none] }) (s.heap.objs.size + 1) s.heap.objs.size 0 .none := g
  exact ⟨⟨_, en, rfl⟩, fin _ en ⟨_, Heap.get?_push_of_some _ (Heap.get?_push_size _ rfl), rfl, rfl⟩ fun b o x => Heap.get?_push_of_some _ (Heap.get?_push_of_some _ x)⟩
end
/-- the tuple at a, its items with their places in new pairs -/
def IteT (K : PySem.W.Frag) (a : Addr) : It :=
  ⟨fun i H => ∃ (xs : List V) (x : V), SqT K H a xs ∧ xs[i]? = some x,
    fun i H v H' => ∃ T x, v = .ref T ∧ H T = none ∧ H' = upd H T (.tup [.int (i : Nat), x]) ∧ ∀ xs, SqT K H a xs → xs[i]? = some x,
    fun i H => ∃ xs : List V, SqT K H a xs ∧ xs.length = i⟩
theorem turn_enT {P : Program} {w : World} {K : PySem.W.Frag} {elts : List Expr} {kk : Nat} {tpos : Pos} (a e it : Addr) :
    Turn P w K (.Tuple elts kk tpos) (IteT K a) [e, it] e (fun i h => (∃ old, IsEnum h e it (0 + (i : Int)) old) ∧ h.IsTupleIter it a i ∧ e ≠ it ∧ a ≠ e ∧ a ≠ it) where
  mem := List.mem_cons_self
  obj := fun i h st b hb => by
    obtain ⟨⟨old, he⟩, ⟨o, ho, _, hd⟩, _⟩ := st
    rcases List.mem_cons.mp hb with z | hb
    · subst z
      exact ⟨_, he, fun v q => nomatch q⟩
    · have z := List.mem_singleton.mp hb
      exact ⟨o, by rw [z]; exact ho, fun v q => by rw [hd] at q; cases q⟩
  keep := fun i h h' st k => ⟨⟨st.1.choose, k e List.mem_cons_self _ st.1.choose_spec⟩, st.2.1.at fun o q => k it (List.mem_cons_of_mem _ List.mem_cons_self) o q, st.2.2⟩
  item := by
    intro X hP hw hK hc i pins s σ H E I hf st hg
    subst hP hw hK
    obtain ⟨en, hit, n1, n2, n3⟩ := st
    obtain ⟨xs, x, hq, hx⟩ := hg
    obtain ⟨its, rv, ht, _⟩ := I.tuple hq
    obtain ⟨u, hu, ru⟩ := rv.get hx
    have hlen : i < its.toArray.size := by
      have q := (List.getElem?_eq_some_iff.mp hu).1
      simpa using q
    have W := GoesN.enumFrom (prog := X.prog) (w := X.w) (A := X.A) (elts := elts) (x1 := kk) (pos := tpos) 0 (Draws.tuple (prog := X.prog) (w := X.w) (A := X.A.in1) (I.ok.hd hc) it a n3 its.toArray) e n1
      (by simp only [List.mem_cons, List.not_mem_nil, or_false, not_or]; exact ⟨n1, fun z => n2 z.symm⟩) List.mem_cons_self
    refine W.goes i s _ E hlen ⟨en, hit, ht⟩ fun v h' tk hY st' k _ => ?_
    obtain ⟨T, t, y, ev, hT, hy, o, ho, hcls, m, hd⟩ := hY
    subst ev
    have ey : y = u := by
      have z1 : its[i]? = some y := by simpa using hy
      rw [hu] at z1
      exact (Option.some.inj z1).symm
    subst ey
    have e0 : (0 : Int) + (i : Int) = ((i : Nat) : Int) := Int.zero_add _
    have new : ObjOk X.prog X.w (upd H T (.tup [.int (i : Nat), x])) h' T (.tup [.int (i : Nat), x]) :=
      ⟨by show 2 ≤ sizeLine; decide, [.int (0 + (i : Int)) t, y], .cons (show RelV _ _ from ⟨t, by rw [e0]⟩) (.cons ru .nil), ⟨o, ho, hcls, m, hd⟩⟩
    have I1 := I.turnedNew (t' := tk) (ch := [e, it]) k hf hT new
    refine ⟨.ref T, _, I1, rfl, ⟨T, x, rfl, I.hok.fresh hT, rfl, fun ys hys => by rw [I.tuple_inj hys hq]; exact hx⟩, ⟨?_, st'.2.1, n1, n2, n3⟩, fun b hb => ?_⟩
    · obtain ⟨old, q⟩ := st'.1
      exact ⟨old, q⟩
    · have hbs : b < s.heap.objs.size := by
        rcases List.mem_cons.mp hb with z | hb
        · obtain ⟨old, q⟩ := en
          rw [z]
          exact Heap.lt_size q
        · rw [List.mem_singleton.mp hb]
          obtain ⟨o, q, _⟩ := hit
          exact Heap.lt_size q
      rw [upd_ne (Nat.ne_of_lt (Nat.lt_of_lt_of_le hbs hT))]
      exact (hf b hb).1
  done := by
    intro X hP hw hK hc i pins s σ H E I hf st hg
    subst hP hw hK
    obtain ⟨en, hit, n1, n2, n3⟩ := st
    obtain ⟨xs, hq, hle⟩ := hg
    obtain ⟨its, rv, ht, _⟩ := I.tuple hq
    have D := Draws.tuple (prog := X.prog) (w := X.w) (A := X.A.in1) (I.ok.hd hc) it a n3 its.toArray
    have hin : its.toArray.size = i := by
      rw [List.size_toArray, ← rv.length]
      exact hle
    obtain ⟨old, he⟩ := en
    obtain ⟨f0, f1, f2, f3, f4, f5⟩ := hf it (List.mem_cons_of_mem _ List.mem_cons_self)
    exact wpAny_pyNext_enum_endD D he (by rw [hin]; exact ⟨hit, ht⟩) fun h' eb => ⟨rfl, I.turned (t' := s.toks) (fun b o hb q => eb b o hb q) f0 f1 f3 f4 f5⟩
  self := fun A i s Q E st h => wpAny_pyIter_enum st.1.choose_spec h
def iEnumT (K : PySem.W.Frag) (ta : TA) : TI := fun σ H R => ta σ H fun vs H1 => ∃ a xs, vs = [.ref a] ∧ SqT K H1 a xs ∧ R (IteT K a) H1
theorem pi_enumT {X : Cx} {e : Expr} {ta : TA} {p pos tpos : Pos} {elts : List Expr} {kk : Nat} (hg : Gl X "enumerate") (hm : X.mg "enumerate" = none) (ha : PA X [e] ta) (hs : starEach [e] X.env = [(false, eval e X.env)] := by rfl) :
    PI X (.Tuple elts kk tpos) (.Call (.Name "enumerate" p) [e] [] pos) (iEnumT X.K ta) := by
  refine ⟨fun pins s σ H R I h => ?_⟩
  refine Call_ (ld_blt I hg hm boot_enumerate (PyProof.Rows.callWith_type1 (thn (ha.run pos pins s σ H _ I h) fun us s1 ⟨vs, H1, I1, r1, a, xs, ex, hq, q⟩ => ?_) hs rfl))
  subst ex
  obtain ⟨u, rfl, ru⟩ := vals1 r1
  obtain rfl : u = Value.ref a := ru
  obtain ⟨its, rv, ht, _⟩ := I1.tuple hq
  have lt : a < s1.heap.objs.size := ht.lt
  refine call_enumT (show s1.heap.IsTuple a its.toArray from ht) fun h' en hit k => wpAny_pyIter_enum en ?_
  refine ⟨s1.heap.objs.size + 1, [s1.heap.objs.size + 1, s1.heap.objs.size], _, _, H1, rfl, I1.kept (t' := s1.toks) k, turn_enT a (s1.heap.objs.size + 1) s1.heap.objs.size, ⟨⟨.none, en⟩, hit, Nat.succ_ne_self _, Nat.ne_of_lt (Nat.lt_succ_of_lt lt), Nat.ne_of_lt lt⟩, fun b hb => ?_, q⟩
  have le : s1.heap.objs.size ≤ b := by
    rcases List.mem_cons.mp hb with z | hb
    · rw [z]
      exact Nat.le_succ _
    · rw [List.mem_singleton.mp hb]
      exact Nat.le_refl _
  exact I1.fpOk le (I1.hok.fresh le)
theorem walk_enumT {K : PySem.W.Frag} {a : Addr} {xs : List V} : Walk (IteT K a) xs.length (fun H => SqT K H a xs) (YPair (fun i => some (.int (i : Nat))) (fun i => xs[i]?)) := by
  refine ⟨fun i _ hi q => ⟨xs, xs[i], q, by simp [hi]⟩, fun _ q => ⟨xs, q, rfl⟩, fun i H v H' _ q y => ?_⟩
  obtain ⟨T, x, h1, h2, h3, h4⟩ := y
  exact ⟨T, .int (i : Nat), x, h1, h2, h3, rfl, h4 xs q⟩
/-- zip of two tuples of any lengths -/
theorem walk_zipT {K : PySem.W.Frag} {a b : Addr} {xs ys : List V} {n : Nat} (hn : n = min xs.length ys.length) : Walk (ItzT K a b) n (fun H => SqT K H a xs ∧ SqT K H b ys) (YPair (fun i => xs[i]?) (fun i => ys[i]?)) := by
  subst hn
  refine ⟨fun i _ hi q => ?_, fun _ q => ⟨xs, ys, q.1, q.2, by omega⟩, fun i H v H' _ q y => ?_⟩
  · have l1 : i < xs.length := by omega
    have l2 : i < ys.length := by omega
    exact ⟨xs, ys, xs[i], ys[i], q.1, q.2, by simp [l1], by simp [l2]⟩
  · obtain ⟨T, x, z, h1, h2, h3, h4, h5⟩ := y
    exact ⟨T, x, z, h1, h2, h3, h4 xs q.1, h5 ys q.2⟩
end K61
namespace K61
open PySem PySem.Spec PyProof.Rows L2 RZ
/-! ### zip(l, t), a list and a tuple -/
def ItzM (K : PySem.W.Frag) (a b : Addr) : It :=
  ⟨fun i H => ∃ (xs ys : List V) (x y : V), SqL K H a xs ∧ SqT K H b ys ∧ xs[i]? = some x ∧ ys[i]? = some y,
    fun i H v H' => ∃ T x y, v = .ref T ∧ H T = none ∧ H' = upd H T (.tup [x, y]) ∧ (∀ xs, SqL K H a xs → xs[i]? = some x) ∧ ∀ ys, SqT K H b ys → ys[i]? = some y,
    fun i H => ∃ xs ys : List V, SqL K H a xs ∧ SqT K H b ys ∧ min xs.length ys.length = i⟩
theorem turn_zM {P : Program} {w : World} {K : PySem.W.Frag} {elts : List Expr} {kk : Nat} {tpos : Pos} {a b z TI TO i1 i2 : Addr} (S : ZipSep2 z TI TO i1 i2 [i1, a] [i2, b]) (na : a ≠ i1) (nb : b ≠ i2) :
    Turn P w K (.Tuple elts kk tpos) (ItzM K a b) [z, TI, TO, i1, i2] z (fun i h => IsZip h z TI TO .none ∧ IsTupOf2 h TI (.ref i1) (.ref i2) ∧ (∃ x y, IsTupOf2 h TO x y) ∧ h.IsListIter i1 a i ∧ h.IsTupleIter i2 b i) where
  mem := List.mem_cons_self
  obj := fun i h st c hc => by
    obtain ⟨hz, hTI, ⟨x, y, hTO⟩, ⟨o1, e1, _, d1⟩, ⟨o2, e2, _, d2⟩⟩ := st
    have e' : c = z ∨ c = TI ∨ c = TO ∨ c = i1 ∨ c = i2 := by simpa using hc
    rcases e' with q | q | q | q | q <;> subst q
    · exact ⟨_, hz, fun v q => nomatch q⟩
    · exact ⟨_, hTI, fun v q => nomatch q⟩
    · exact ⟨_, hTO, fun v q => nomatch q⟩
    · exact ⟨_, e1, fun v q => by rw [d1] at q; cases q⟩
    · exact ⟨_, e2, fun v q => by rw [d2] at q; cases q⟩
  keep := fun i h h' st k => by
    obtain ⟨hz, hTI, ⟨x, y, hTO⟩, j1, j2⟩ := st
    exact ⟨k z (by simp) _ hz, k TI (by simp) _ hTI, ⟨x, y, k TO (by simp) _ hTO⟩, j1.at fun o q => k i1 (by simp) o q, j2.at fun o q => k i2 (by simp) o q⟩
  item := by
    intro X hP hw hK hc i pins s σ H E I hf st hg
    subst hP hw hK
    obtain ⟨xs, ys, x, y, hqx, hqy, hx, hy⟩ := hg
    obtain ⟨its, rv, pl, _⟩ := I.list hqx
    obtain ⟨its2, rv2, pt, _⟩ := I.tuple hqy
    obtain ⟨u, hu, ru⟩ := rv.get hx
    obtain ⟨u2, hu2, ru2⟩ := rv2.get hy
    have l1 : i < its.toArray.size := by simpa using (List.getElem?_eq_some_iff.mp hu).1
    have l2 : i < its2.toArray.size := by simpa using (List.getElem?_eq_some_iff.mp hu2).1
    have W := GoesN.zip2 (prog := X.prog) (w := X.w) (A := X.A) (elts := elts) (x1 := kk) (pos := tpos) S (Draws.list (prog := X.prog) (w := X.w) (A := X.A.in1) (I.ok.hd hc) i1 a na its.toArray) (Draws.tuple (prog := X.prog) (w := X.w) (A := X.A.in1) (I.ok.hd hc) i2 b nb its2.toArray)
    obtain ⟨hz, hTI, hTO, j1, j2⟩ := st
    refine W.goes i s _ E (by omega) ⟨hz, hTI, hTO, ⟨j1, pl.isList⟩, ⟨j2, pt⟩⟩ fun v h' tk hY st' k _ => ?_
    obtain ⟨T, v1, v2, ev, hT, hy1, hy2, o, ho, hcls, m, hd⟩ := hY
    subst ev
    have q1 : v1 = u := by
      have z1 : its[i]? = some v1 := by simpa using hy1
      rw [hu] at z1
      exact (Option.some.inj z1).symm
    have q2 : v2 = u2 := by
      have z1 : its2[i]? = some v2 := by simpa using hy2
      rw [hu2] at z1
      exact (Option.some.inj z1).symm
    subst q1 q2
    have new : ObjOk X.prog X.w (upd H T (.tup [x, y])) h' T (.tup [x, y]) := ⟨by show 2 ≤ sizeLine; decide, [v1, v2], .cons ru (.cons ru2 .nil), ⟨o, ho, hcls, m, hd⟩⟩
    have I1 := I.turnedNew (t' := tk) (ch := [z, TI, TO, i1, i2]) (fun c ob hb q => k c ob (fun q' => hb (by
      have e' : c = z ∨ c = TO ∨ c = i1 ∨ c = i2 := by simpa using q'
      rcases e' with r | r | r | r <;> simp [r])) q) hf hT new
    refine ⟨.ref T, _, I1, rfl, ⟨T, x, y, rfl, I.hok.fresh hT, rfl, fun l hl => by rw [I.list_inj hl hqx]; exact hx, fun l hl => by rw [I.tuple_inj hl hqy]; exact hy⟩, ⟨st'.1, st'.2.1, st'.2.2.1, st'.2.2.2.1.1, st'.2.2.2.2.1⟩, fun c hb => ?_⟩
    have lt : c < s.heap.objs.size := by
      have e' : c = z ∨ c = TI ∨ c = TO ∨ c = i1 ∨ c = i2 := by simpa using hb
      obtain ⟨_, _, hTO⟩ := hTO
      obtain ⟨_, j1, _⟩ := j1
      obtain ⟨_, j2, _⟩ := j2
      rcases e' with r | r | r | r | r <;> subst r
      · exact Heap.lt_size hz
      · exact Heap.lt_size hTI
      · exact Heap.lt_size hTO
      · exact Heap.lt_size j1
      · exact Heap.lt_size j2
    rw [upd_ne (Nat.ne_of_lt (Nat.lt_of_lt_of_le lt hT))]
    exact (hf c hb).1
  done := by
    intro X hP hw hK hc i pins s σ H E I hf st hg
    subst hP hw hK
    obtain ⟨xs, ys, hqx, hqy, he⟩ := hg
    obtain ⟨its, rv, pl, _⟩ := I.list hqx
    obtain ⟨its2, rv2, pt, _⟩ := I.tuple hqy
    have W := GoesN.zip2 (prog := X.prog) (w := X.w) (A := X.A) (elts := elts) (x1 := kk) (pos := tpos) S (Draws.list (prog := X.prog) (w := X.w) (A := X.A.in1) (I.ok.hd hc) i1 a na its.toArray) (Draws.tuple (prog := X.prog) (w := X.w) (A := X.A.in1) (I.ok.hd hc) i2 b nb its2.toArray)
    obtain ⟨hz, hTI, hTO, j1, j2⟩ := st
    have en : i = min its.toArray.size its2.toArray.size := by
      rw [List.size_toArray, List.size_toArray, ← rv.length, ← rv2.length]
      exact he.symm
    subst en
    refine wpAny_mono (W.stops s (fun s1 => Inv X pins σ H s1) E ⟨hz, hTI, hTO, ⟨j1, pl.isList⟩, ⟨j2, pt⟩⟩ fun h' tk k _ => ?_) (fun r s1 q => q) fun _ _ q => q
    exact I.turnedL (t' := tk) (ch := [z, TI, TO, i1, i2]) (fun c ob hb q => k c ob (fun q' => hb (by
      have e' : c = z ∨ c = TO ∨ c = i1 ∨ c = i2 := by simpa using q'
      rcases e' with r | r | r | r <;> simp [r])) q) hf
  self := fun A i s Q E st h => wpAny_pyIter_zip st.1 h
def iZipM (K : PySem.W.Frag) (ta : TA) : TI := fun σ H R => ta σ H fun vs H1 => ∃ a b xs ys, vs = [.ref a, .ref b] ∧ SqL K H1 a xs ∧ SqT K H1 b ys ∧ R (ItzM K a b) H1
theorem pi_zipM {X : Cx} {e e2 : Expr} {ta : TA} {p pos tpos : Pos} {elts : List Expr} {kk : Nat} (hg : Gl X "zip") (hm : X.mg "zip" = none) (ha : PA X [e, e2] ta)
    (hs : starEach [e, e2] X.env = (false, eval e X.env) :: starEach [e2] X.env := by rfl) (hpl : (backTo pos (starEach [e2] X.env)).any (·.1) = false := by rfl) :
    PI X (.Tuple elts kk tpos) (.Call (.Name "zip" p) [e, e2] [] pos) (iZipM X.K ta) := by
  refine ⟨fun pins s σ H R I h => ?_⟩
  refine Call_ (ld_blt I hg hm PyProof.Rows.boot_zip (PyProof.Rows.callWith_type1 (thn (ha.run pos pins s σ H _ I h) fun us s1 ⟨vs, H1, I1, r1, a, b, xs, ys, ex, hqx, hqy, q⟩ => ?_) hs hpl))
  subst ex
  obtain ⟨u, u2, rfl, ru, ru2⟩ := vals2 r1
  obtain rfl : u = Value.ref a := ru
  obtain rfl : u2 = Value.ref b := ru2
  obtain ⟨its, rv, pl, _⟩ := I1.list hqx
  obtain ⟨its2, rv2, pt, _⟩ := I1.tuple hqy
  have la : a < s1.heap.objs.size := pl.lt
  have lb : b < s1.heap.objs.size := pt.lt
  refine zip_begins2 (begins_list a its.toArray) (begins_tuple b its2.toArray) pl.isList pt fun h' hz hTI hTO g1 g2 hsz k => wpAny_pyIter_zip hz ?_
  have S := zip_sep2 (N := s1.heap.objs.size) (fp1 := [a]) (fp2 := [b]) (fun c hc => by rw [List.mem_singleton.mp hc]; exact la) (fun c hc => by rw [List.mem_singleton.mp hc]; exact lb)
  refine ⟨s1.heap.objs.size + 4, [s1.heap.objs.size + 4, s1.heap.objs.size + 2, s1.heap.objs.size + 3, s1.heap.objs.size, s1.heap.objs.size + 1], _, _, H1, rfl, I1.kept (t' := s1.toks) k, turn_zM S (Nat.ne_of_lt la) (Nat.ne_of_lt (Nat.lt_succ_of_lt lb)), ⟨hz, hTI, ⟨_, _, hTO⟩, ⟨_, g1, rfl, rfl⟩, ⟨_, g2, rfl, rfl⟩⟩, fun c hcm => ?_, q⟩
  have le : s1.heap.objs.size ≤ c := by
    have e' : c = s1.heap.objs.size + 4 ∨ c = s1.heap.objs.size + 2 ∨ c = s1.heap.objs.size + 3 ∨ c = s1.heap.objs.size ∨ c = s1.heap.objs.size + 1 := by simpa using hcm
    rcases e' with r | r | r | r | r <;> rw [r]
    · exact Nat.le_add_right _ _
    · exact Nat.le_add_right _ _
    · exact Nat.le_add_right _ _
    · exact Nat.le_refl _
    · exact Nat.le_add_right _ _
  exact I1.fpOk le (I1.hok.fresh le)
theorem walk_zipM {K : PySem.W.Frag} {a b : Addr} {xs ys : List V} {n : Nat} (hn : n = min xs.length ys.length) : Walk (ItzM K a b) n (fun H => SqL K H a xs ∧ SqT K H b ys) (YPair (fun i => xs[i]?) (fun i => ys[i]?)) := by
  subst hn
  refine ⟨fun i _ hi q => ?_, fun _ q => ⟨xs, ys, q.1, q.2, rfl⟩, fun i H v H' _ q y => ?_⟩
  · have l1 : i < xs.length := by omega
    have l2 : i < ys.length := by omega
    exact ⟨xs, ys, xs[i], ys[i], q.1, q.2, by simp [l1], by simp [l2]⟩
  · obtain ⟨T, x, z, h1, h2, h3, h4, h5⟩ := y
    exact ⟨T, x, z, h1, h2, h3, h4 xs q.1, h5 ys q.2⟩
end K61

set_option Elab.async false
set_option linter.all false
set_option maxRecDepth 100000
set_option maxHeartbeats 4000000
/-! The base of the walks: what a def's caller holds (Cal), heaps that only grow, data told by PyData, comprehensions by one lemma. -/
namespace K61
open PySem PySem.Spec PyProof.Rows L2
def top (i : Nat) : Stmt := PySem.Challenge.pw_ropesays_k61_whole_whites_and_blacks.main.body.getD i (.Pass ⟨0, 0, 0, 0⟩)
/-- the built-ins that the defs use are not hidden by the module -/
structure Bi (mg : Str → Option Value) : Prop where
  len : mg "len" = none
  range : mg "range" = none
  zip : mg "zip" = none
  enumerate : mg "enumerate" = none
  isinstance : mg "isinstance" = none
  all : mg "all" = none
  sum : mg "sum" = none
  sorted : mg "sorted" = none
  tuple : mg "tuple" = none
  list : mg "list" = none
  int : mg "int" = none
  bool : mg "bool" = none
  abs : mg "abs" = none
  min : mg "min" = none
  repr : mg "repr" = none
  super : mg "super" = none
/-- a def as its callers have it -/
structure Cal (P : Program) (w : World) (K : PySem.W.Frag) (mg : Str → Option Value) (base : Heap) (CX : CXT) (k : Nat) (x : Str) (ps : List Str) (dvs : List V) (sp : Sp) : Prop where
  ex : ∃ (f : Addr) (fd : FuncData) (ds : List Value), mg x = some (.ref f) ∧ PySem.W.keepIn K (.ref f) = true ∧ FnOk P w K mg base CX k f fd ps sp ∧ L2.Binds K fd ps ds ∧ Vals dvs ds
theorem Cal.of {P : Program} {w : World} {K : PySem.W.Frag} {mg : Str → Option Value} {base : Heap} {CX : CXT} {k : Nat} {x : Str} {ps : List Str} {sp : Sp} {f : Addr} {fd : FuncData} (g : mg x = some (.ref f)) (kp : PySem.W.keepIn K (.ref f) = true)
    (F : FnOk P w K mg base CX k f fd ps sp) (b : L2.Binds K fd ps []) : Cal P w K mg base CX k x ps [] sp := ⟨f, fd, [], g, kp, F, b, .nil⟩
theorem Cal.mono {P : Program} {w : World} {K : PySem.W.Frag} {mg : Str → Option Value} {base : Heap} {CX : CXT} {j k : Nat} {x : Str} {ps : List Str} {dvs : List V} {sp : Sp} (c : Cal P w K mg base CX j x ps dvs sp) (h : j ≤ k) : Cal P w K mg base CX k x ps dvs sp := by
  obtain ⟨f, fd, ds, h1, h2, h3, h4, h5⟩ := c.ex
  exact ⟨f, fd, ds, h1, h2, h3.mono h, h4, h5⟩
/-- a def of the top as the head tells it: its defaults dvs -/
abbrev FnQ (K : PySem.W.Frag) (x : Str) (st : Stmt) (dvs : List V) (f : Addr) (fd : FuncData) : Prop := FunD K x x (defArgs st) (defBody st) (defScope st) dvs [] f fd
abbrev FnP (K : PySem.W.Frag) (x : Str) (st : Stmt) (f : Addr) (fd : FuncData) : Prop := FnQ K x st [] f fd
theorem okN {P : Program} {w : World} {K : PySem.W.Frag} {mg : Str → Option Value} {base : Heap} {x qual : Str} {params : Arguments} {body : List Stmt} {scope : Scope} {dvs : List V} {kws : List (Str × V)} {f : Addr} {fd : FuncData} {N ps : List Str} {k : Nat} {sp : Sp}
    (F : FunD K x qual params body scope dvs kws f fd) (S : FnScope N ps scope) (len : ∀ vs H Q E, sp vs H Q E → vs.length = ps.length)
    (hbody : ∀ (cdv : Value) (A : Around) (outer : List Env) (s : Shared) (H : Hp) (vs : List V) (Q : VK) (E : XK), Room k (A.deeper (envOfC qual scope s.heap.objs.size f cdv)) → sp vs H Q E →
      ∃ t, PSs (cxOf CX0 P w K mg base N qual scope f cdv A outer s H E).nox body t ∧ t { nx := fun _ H' => Q .non H', rt := Q } (L2.start N vs) H) : FnOk P w K mg base CX0 (k + 1) f fd ps sp :=
  F.ok S len fun cdv A outer s H vs Q E hr h => by
    obtain ⟨t, a, b⟩ := hbody cdv A outer s H vs Q E hr h
    exact ⟨t, a.nox, b⟩
section
variable {X : Cx}
theorem e_call {CX : CXT} {k : Nat} {x : Str} {ps : List Str} {dvs : List V} {sp : Sp} {E : XK} {p pos : Pos} {e : Expr} {es : List Expr} {t : TA} (C : Cal X.prog X.w X.K X.mg X.base CX k x ps dvs sp) (hr : Room k X.A) (hx : L2.Passes CX X E) (ha : PA X (e :: es) t) (hg : Gl X x := by rfl)
    (hdb : (x == ("__debug__" : Str)) = false := by decide) (he : starEach (e :: es) X.env = (false, eval e X.env) :: starEach es X.env := by rfl) (hpl : (backTo pos (starEach es X.env)).any (·.1) = false := by rfl) :
    PE X (.Call (.Name x p) (e :: es) [] pos) (tCall sp dvs E t) := by
  obtain ⟨f, fd, ds, h1, h2, h3, h4, h5⟩ := C.ex
  exact pe_call h3 hr hg h1 h2 h4 h5 hx ha hdb he hpl
theorem pgn (i : Nat) {x : Str} {pos : Pos} (hN : X.N.Nodup) (hi : X.N[i]? = some x := by rfl) (hx : Loc X.env.scope x := by first | exact Or.inl rfl | exact Or.inr rfl) (hf : X.fn x = true ∨ X.env.scope.names.lookup x = some .local := by first | exact .inl rfl | exact .inr rfl) :
    PG X (.Name x pos) (gName i) := pg_name hN hi hx hf
/-- a list or a tuple, walked -/
def iSeq (K : PySem.W.Frag) (tl : TE) : TI := fun σ H R => tl σ H fun x H1 => ∃ a, x = .ref a ∧ ∃ xs, (SqL K H1 a xs ∨ SqT K H1 a xs) ∧ ∀ (J : It) (G : Hp → Prop), Walk J xs.length G (YAt xs) → (∀ H', Same H1 H' → G H') → R J H1
theorem ext_tup {K : PySem.W.Frag} {H H' : Hp} {a : Addr} {xs : List V} (e : Same H H') (h : SqT K H a xs) : SqT K H' a xs := by
  rcases h with (h | ⟨o, h⟩) | h
  · exact .inl (.inl (e _ _ h))
  · exact .inl (.inr ⟨o, e _ _ h⟩)
  · exact .inr h
theorem pi_seq {tg l : Expr} {tl : TE} (hl : PE X l tl) : PI X tg l (iSeq X.K tl) := by
  refine ⟨fun pins s σ H R I h => ?_⟩
  refine thn (hl.run pins s σ H _ I h) fun v s1 ⟨x, H1, I1, r1, q1⟩ => ?_
  obtain ⟨a, e, xs, q1, q⟩ := q1
  subst e
  cases r1
  have new : ∀ {o : Obj}, Inv X pins σ H1 { s1 with heap := s1.heap.push o, toks := s1.toks } := fun {o} => I1.kept fun b o e => Heap.get?_push_of_some _ e
  have foot : ∀ b ∈ [s1.heap.objs.size], FpOk X pins H1 b := fun b hb => by
    rw [List.mem_singleton.mp hb]
    exact I1.fpOk (Nat.le_refl _) (I1.hok.fresh (Nat.le_refl _))
  rcases q1 with hq | hq
  · have q := q _ _ walk_list fun H' s => s.seq hq
    obtain ⟨its, rv, p, hz⟩ := I1.list hq
    exact wpAny_pyIter_list p.isList ⟨s1.heap.objs.size, [s1.heap.objs.size], _, _, H1, rfl, new, turn_list a _, ⟨_, Heap.get?_push_size _ rfl, rfl, rfl⟩, foot, q⟩
  · have q := q _ _ walk_tup fun H' s => ext_tup s hq
    obtain ⟨its, rv, p, hz⟩ := I1.tuple hq
    exact wpAny_pyIter_tuple (show s1.heap.IsTuple a its.toArray from p) ⟨s1.heap.objs.size, [s1.heap.objs.size], _, _, H1, rfl, new, turn_tuple a _, ⟨_, Heap.get?_push_size _ rfl, rfl, rfl⟩, foot, q⟩
end
/-! ### built-ins at boot -/
theorem bt_range : bootBuiltins "range" = some (.type "range") := by decide +kernel
theorem bt_len : bootBuiltins "len" = some (.builtin "len") := by decide +kernel
theorem bt_isinstance : bootBuiltins "isinstance" = some (.builtin "isinstance") := by decide +kernel
theorem bt_all : bootBuiltins "all" = some (.builtin "all") := by decide +kernel
theorem bt_sum : bootBuiltins "sum" = some (.builtin "sum") := by decide +kernel
theorem bt_sorted : bootBuiltins "sorted" = some (.builtin "sorted") := by decide +kernel
theorem bt_abs : bootBuiltins "abs" = some (.builtin "abs") := by decide +kernel
theorem bt_min : bootBuiltins "min" = some (.builtin "min") := by decide +kernel
theorem bt_repr : bootBuiltins "repr" = some (.builtin "repr") := by decide +kernel
theorem bt_tuple : bootBuiltins "tuple" = some (.type "tuple") := by decide +kernel
theorem bt_list : bootBuiltins "list" = some (.type "list") := by decide +kernel
theorem bt_int : bootBuiltins "int" = some (.type "int") := by decide +kernel
theorem bt_bool : bootBuiltins "bool" = some (.type "bool") := by decide +kernel
/-! ### rules whose reading names the written part, it given by name (within a comprehension it must not hang on the block) -/
section
variable {X : Cx} (K : PySem.W.Frag)
theorem kIxL (h : X.K = K := by rfl) : IxR X (rIxL K) := by
  subst h
  exact ix_list
theorem kIxT (h : X.K = K := by rfl) : IxR X (rIxT K) := by
  subst h
  exact ix_tup
theorem kIn (h : X.K = K := by rfl) : OpR X (compareOp .In) (rIn K false) := by
  subst h
  exact op_in_seq
theorem kNotIn (h : X.K = K := by rfl) : OpR X (compareOp .NotIn) (rIn K true) := by
  subst h
  exact op_notIn_seq
def rLen (K : PySem.W.Frag) : List V → Hp → VK → Prop := fun xs H Q => ∃ p ys, xs = [.ref p] ∧ (SqL K H p ys ∨ SqT K H p ys) ∧ Q (.int ys.length) H
theorem kLen (h : X.K = K := by rfl) : CallR X (.builtin "len") (rLen K) := by
  subst h
  exact call_len_seq
def rTup (K : PySem.W.Frag) : List V → Hp → VK → Prop := fun xs H Q => ∃ p ys, xs = [.ref p] ∧ ((SqL K H p ys ∧ ∀ l, H l = none → Q (.ref l) (upd H l (.tup ys))) ∨ (SqT K H p ys ∧ Q (.ref p) H))
theorem kTup (h : X.K = K := by rfl) : CallR X (.type "tuple") (rTup K) := by
  subst h
  exact call_tuple_of
def rList (K : PySem.W.Frag) : List V → Hp → VK → Prop := fun xs H Q => ∃ p ys, xs = [.ref p] ∧ (SqL K H p ys ∨ SqT K H p ys) ∧ ∀ l, H l = none → Q (.ref l) (upd H l (.lst ys))
theorem kList (h : X.K = K := by rfl) : CallR X (.type "list") (rList K) := by
  subst h
  exact call_list_of
theorem kSum (hc : X.calm = true) (h : X.K = K := by rfl) : CallR X (.builtin "sum") (rSum K) := by
  subst h
  exact cr_sum hc
theorem kSumT (hc : X.calm = true) (h : X.K = K := by rfl) : CallR X (.builtin "sum") (rSumT K) := by
  subst h
  exact cr_sumT hc
theorem kAll (hc : X.calm = true) (h : X.K = K := by rfl) : CallR X (.builtin "all") (rAll K) := by
  subst h
  exact cr_all hc
theorem kSlL (h : X.K = K := by rfl) : SlR X (rSlL K) := by
  subst h
  exact sl_list
theorem kFld {e : Expr} {ta : TE} {f : Str} {pos : Pos} (he : PE X e ta) (hb : attributeBase e f X.env (eval e X.env) = eval e X.env) (h : X.K = K := by rfl) : PE X (.Attribute e f pos) (tFld K ta f) := by
  subst h
  exact pe_fld he hb
theorem kIsi (h : X.K = K := by rfl) : CallR X (.builtin "isinstance") (rIsi K) := by
  subst h
  exact call_isi
theorem kIsiT (h : X.K = K := by rfl) : CallR X (.builtin "isinstance") (rIsiT K) := by
  subst h
  exact call_isiT
end
/-! ### heaps that grow; a heap without one address -/
theorem same_tup {K : PySem.W.Frag} {H H' : Hp} {a : Addr} {xs : List V} (e : Same H H') (h : SqT K H a xs) : SqT K H' a xs := ext_tup e h
theorem same_upd {H : Hp} {p : Addr} {o : HO} (h : H p = none) : Same H (upd H p o) := fun b u e => by
  rw [upd_ne (ne_of_none e h)]
  exact e
def del (H : Hp) (D : Addr) : Hp := fun b => if b = D then none else H b
theorem del_ne {H : Hp} {D b : Addr} (h : b ≠ D) : del H D b = H b := if_neg h
theorem del_at {H : Hp} {D : Addr} : del H D D = none := if_pos rfl
theorem same_del {H : Hp} {D : Addr} : Same (del H D) H := fun b o e => by
  by_cases h : b = D
  · rw [h, del_at] at e
    cases e
  · rw [del_ne h] at e
    exact e
theorem same_dels {H H' : Hp} (s : Same H H') (D : Addr) : Same (del H D) (del H' D) := fun b o e => by
  by_cases h : b = D
  · rw [h, del_at] at e
    cases e
  · rw [del_ne h] at e ⊢
    exact s b o e
theorem del_upd {H : Hp} {D : Addr} {o : HO} : del (upd H D o) D = del H D := by
  funext b
  by_cases h : b = D
  · rw [h, del_at, del_at]
  · rw [del_ne h, del_ne h, upd_ne h]
/-- what was there ahead of D's own making is not D -/
theorem same_under {H H' : Hp} {D : Addr} (s : Same H H') (h : H D = none) : Same H (del H' D) := fun b o e => by
  rw [del_ne (ne_of_none e h)]
  exact s b o e
theorem tup_del {K : PySem.W.Frag} {H : Hp} {a D : Addr} {xs ys : List V} (h : SqT K H a xs) (hD : H D = some (.lst ys)) : SqT K (del H D) a xs := by
  rcases h with (h | ⟨o, h⟩) | h
  · exact .inl (.inl (by rw [del_ne (ne_of h hD (by intro z; cases z))]; exact h))
  · exact .inl (.inr ⟨o, by rw [del_ne (ne_of h hD (by intro z; cases z))]; exact h⟩)
  · exact .inr h
/-! ### data -/
mutual
theorem dp_same {K : PySem.W.Frag} {H H' : Hp} (s : Same H H') : ∀ {v : V} {d : PyData}, Dp K H v d → Dp K H' v d
  | _, _, .non => .non
  | _, _, .bl b => .bl b
  | _, _, .int i => .int i
  | _, _, .str x => .str x
  | _, _, .lst a b => .lst (s.seq a) (dpa_same s b)
  | _, _, .tup a b => .tup (same_tup s a) (dpa_same s b)
theorem dpa_same {K : PySem.W.Frag} {H H' : Hp} (s : Same H H') : ∀ {vs : List V} {ds : List PyData}, DpAll K H vs ds → DpAll K H' vs ds
  | _, _, .nil => .nil
  | _, _, .cons a b => .cons (dp_same s a) (dpa_same s b)
end
theorem dpa_length {K : PySem.W.Frag} {H : Hp} : ∀ {vs : List V} {ds : List PyData}, DpAll K H vs ds → vs.length = ds.length
  | _, _, .nil => rfl
  | _, _, .cons _ b => congrArg (· + 1) (dpa_length b)
theorem dpa_get {K : PySem.W.Frag} {H : Hp} : ∀ {vs : List V} {ds : List PyData} {i : Nat} {v : V}, DpAll K H vs ds → vs[i]? = some v → ∃ d, ds[i]? = some d ∧ Dp K H v d
  | _, _, i, v, .nil, e => by simp at e
  | _, _, 0, v, .cons a _, e => by
    cases e
    exact ⟨_, rfl, a⟩
  | _, _, i + 1, v, .cons _ b, e => dpa_get (i := i) b (by simpa using e)
theorem dpa_snoc {K : PySem.W.Frag} {H : Hp} {v : V} {d : PyData} (h : Dp K H v d) : ∀ {vs : List V} {ds : List PyData}, DpAll K H vs ds → DpAll K H (vs ++ [v]) (ds ++ [d])
  | _, _, .nil => .cons h .nil
  | _, _, .cons a b => .cons a (dpa_snoc h b)
theorem dpa_app {K : PySem.W.Frag} {H : Hp} {ws : List V} {es : List PyData} (h : DpAll K H ws es) : ∀ {vs : List V} {ds : List PyData}, DpAll K H vs ds → DpAll K H (vs ++ ws) (ds ++ es)
  | _, _, .nil => h
  | _, _, .cons a b => .cons a (dpa_app h b)
theorem dpa_ints {K : PySem.W.Frag} {H : Hp} : ∀ ns : List Int, DpAll K H (ns.map V.int) (ns.map PyData.int)
  | [] => .nil
  | _ :: r => .cons (.int _) (dpa_ints r)
theorem dpa_ints' {K : PySem.W.Frag} {H : Hp} : ∀ {ns : List Int} {vs : List V}, DpAll K H vs (ns.map PyData.int) → vs = ns.map V.int
  | [], _, .nil => rfl
  | n :: r, _, .cons a b => by
    cases a
    rw [dpa_ints' (ns := r) b]
    rfl
abbrev dT (ns : List Int) : PyData := .tuple (ns.map PyData.int)
abbrev dL (ns : List Int) : PyData := .list (ns.map PyData.int)
abbrev dTT (rs : List (List Int)) : PyData := .tuple (rs.map dT)
abbrev dLT (rs : List (List Int)) : PyData := .list (rs.map dT)
abbrev dLL (rs : List (List Int)) : PyData := .list (rs.map dL)
theorem dp_T {K : PySem.W.Frag} {H : Hp} {a : Addr} {ns : List Int} (h : SqT K H a (ns.map V.int)) : Dp K H (.ref a) (dT ns) := .tup h (dpa_ints ns)
theorem dp_L {K : PySem.W.Frag} {H : Hp} {a : Addr} {ns : List Int} (h : SqL K H a (ns.map V.int)) : Dp K H (.ref a) (dL ns) := .lst h (dpa_ints ns)
theorem dp_T' {K : PySem.W.Frag} {H : Hp} {v : V} {ns : List Int} (h : Dp K H v (dT ns)) : ∃ a, v = .ref a ∧ SqT K H a (ns.map V.int) := by
  cases h with
  | tup a b =>
    cases dpa_ints' b
    exact ⟨_, rfl, a⟩
theorem dp_L' {K : PySem.W.Frag} {H : Hp} {v : V} {ns : List Int} (h : Dp K H v (dL ns)) : ∃ a, v = .ref a ∧ SqL K H a (ns.map V.int) := by
  cases h with
  | lst a b =>
    cases dpa_ints' b
    exact ⟨_, rfl, a⟩
theorem dp_tup' {K : PySem.W.Frag} {H : Hp} {v : V} {ds : List PyData} (h : Dp K H v (.tuple ds)) : ∃ a vs, v = .ref a ∧ SqT K H a vs ∧ DpAll K H vs ds := by
  cases h with
  | tup a b => exact ⟨_, _, rfl, a, b⟩
theorem dp_lst' {K : PySem.W.Frag} {H : Hp} {v : V} {ds : List PyData} (h : Dp K H v (.list ds)) : ∃ a vs, v = .ref a ∧ SqL K H a vs ∧ DpAll K H vs ds := by
  cases h with
  | lst a b => exact ⟨_, _, rfl, a, b⟩
theorem dpT_del {K : PySem.W.Frag} {H : Hp} {D : Addr} {ys : List V} {v : V} {ns : List Int} (h : Dp K H v (dT ns)) (hD : H D = some (.lst ys)) : Dp K (del H D) v (dT ns) := by
  obtain ⟨a, rfl, q⟩ := dp_T' h
  exact dp_T (tup_del q hD)
/-- the i-th of rows told as data -/
theorem row_get {K : PySem.W.Frag} {H : Hp} {vs : List V} {rs : List (List Int)} {i : Nat} {v : V} {f : List Int → PyData} (h : DpAll K H vs (rs.map f)) (e : vs[i]? = some v) : ∃ r, rs[i]? = some r ∧ Dp K H v (f r) := by
  obtain ⟨d, hd, q⟩ := dpa_get h e
  rw [List.getElem?_map] at hd
  cases z : rs[i]? with
  | none =>
    rw [z] at hd
    cases hd
  | some r =>
    rw [z] at hd
    cases hd
    exact ⟨r, rfl, q⟩
theorem int_get {ns : List Int} {i : Nat} {v : V} (e : (ns.map V.int)[i]? = some v) : ∃ n, ns[i]? = some n ∧ v = .int n := by
  rw [List.getElem?_map] at e
  cases z : ns[i]? with
  | none =>
    rw [z] at e
    cases e
  | some r =>
    rw [z] at e
    cases e
    exact ⟨r, rfl, rfl⟩
/-- range(n), its number as it stands -/
theorem walk_r0 {n : Nat} : Walk (Itr 0 n) n (fun _ => True) (YFn fun i => .int (i : Nat)) :=
  walk_range.mono (fun _ _ => trivial) fun i H x H' _ _ y => ⟨y.1, y.2.trans (congrArg V.int (Int.zero_add _))⟩
/-! ### a comprehension whose turns only add to the heap -/
theorem lcg {J : It} {n : Nat} {G : Hp → Prop} {Y : Nat → Hp → V → Hp → Prop} (w : Walk J n G Y) {g : TG} {tt : L2.TT} {te : TE} {vs : List Nat} {σ : L2.St} {H1 : Hp} {D : Addr} {Qd : Hp → Prop} (R : Nat → List V → Hp → Prop) (hD : H1 D = none)
    (hG : ∀ H, Same H1 H → G H) (hR : ∀ i acc H H', Same H H' → R i acc H → R i acc H') (h0 : R 0 [] H1)
    (hs : ∀ i x H H' acc (N : V → Hp → Prop) (N0 : Hp → Prop), i < n → Same H1 H → H D = some (.lst acc) → R i acc (del H D) → Y i H x H' → (∀ y H4, Same H H4 → acc.length < sizeLine → R (i + 1) (acc ++ [y]) (del H4 D) → N y H4) → (∀ H3, Same H H3 → R (i + 1) acc (del H3 D) → N0 H3) →
      g x (wipe σ vs) H' fun σ2 H2 => wipe σ2 vs = wipe σ vs ∧ tt σ2 H2 fun b H3 => if b = true then te σ2 H3 N else N0 H3)
    (hd : ∀ H xs, Same H1 H → H D = some (.lst xs) → R n xs (del H D) → Qd H) :
    ∃ W : Nat → Nat → Hp → Prop, (∃ m, W 0 m (upd H1 D (.lst []))) ∧ ∀ i m H, W i m H →
      (J.stop i H ∧ Qd H) ∨ (J.go i H ∧ ∃ Nx : Hp → Prop, (∀ H', Nx H' → ∃ m', m' < m ∧ W (i + 1) m' H') ∧ ∀ x H', J.yld i H x H' → g x (wipe σ vs) H' fun σ2 H2 => wipe σ2 vs = wipe σ vs ∧ tt σ2 H2 fun b H3 =>
        if b = true then te σ2 H3 fun y H4 => ∃ acc, H4 D = some (.lst acc) ∧ acc.length < sizeLine ∧ Nx (upd H4 D (.lst (acc ++ [y]))) else Nx H3) := by
  have up : ∀ {H : Hp} {o : HO}, Same H1 H → Same H1 (upd H D o) := fun {H o} s b u e => by
    rw [upd_ne (ne_of_none e hD)]
    exact s b u e
  refine lc_it w (fun i H => Same H1 H ∧ ∃ acc, H D = some (.lst acc) ∧ R i acc (del H D)) ⟨up (Same.refl _), [], upd_same, ?_⟩ (fun i H _ p => hG H p.1) (fun i x H H' hi p y => ?_) (fun H ⟨s, xs, e, r⟩ => hd H xs s e r)
  · rw [del_upd]
    exact hR 0 [] H1 _ (same_under (Same.refl H1) hD) h0
  · obtain ⟨s, acc, ea, r⟩ := p
    refine hs i x H H' acc _ _ hi s ea r y (fun v H4 s4 l4 r4 => ⟨acc, s4 _ _ ea, l4, up (s.trans s4), acc ++ [v], upd_same, ?_⟩) (fun H3 s3 r3 => ⟨s.trans s3, acc, s3 _ _ ea, r3⟩)
    rw [del_upd]
    exact r4
/-- every turn gives a value that the turn tells -/
theorem lc_val {J : It} {n : Nat} {G : Hp → Prop} {Y : Nat → Hp → V → Hp → Prop} (w : Walk J n G Y) {g : TG} {te : TE} {vs : List Nat} {σ : L2.St} {H1 : Hp} {D : Addr} {Qd : Hp → Prop} (f : Nat → V) (hD : H1 D = none) (hn : n ≤ sizeLine)
    (hG : ∀ H, Same H1 H → G H)
    (hs : ∀ i x H H' (N : V → Hp → Prop), i < n → Same H1 H → (∃ acc, H D = some (.lst acc)) → Y i H x H' → (∀ H4, Same H H4 → N (f i) H4) → g x (wipe σ vs) H' fun σ2 H2 => wipe σ2 vs = wipe σ vs ∧ te σ2 H2 N)
    (hd : ∀ H, Same H1 H → H D = some (.lst ((List.range n).map f)) → Qd H) :
    ∃ W : Nat → Nat → Hp → Prop, (∃ m, W 0 m (upd H1 D (.lst []))) ∧ ∀ i m H, W i m H →
      (J.stop i H ∧ Qd H) ∨ (J.go i H ∧ ∃ Nx : Hp → Prop, (∀ H', Nx H' → ∃ m', m' < m ∧ W (i + 1) m' H') ∧ ∀ x H', J.yld i H x H' → g x (wipe σ vs) H' fun σ2 H2 => wipe σ2 vs = wipe σ vs ∧ tYes σ2 H2 fun b H3 =>
        if b = true then te σ2 H3 fun y H4 => ∃ acc, H4 D = some (.lst acc) ∧ acc.length < sizeLine ∧ Nx (upd H4 D (.lst (acc ++ [y]))) else Nx H3) := by
  refine lcg w (fun i acc _ => acc = (List.range i).map f) hD hG (fun _ _ _ _ _ r => r) rfl (fun i x H H' acc N N0 hi s ea r y k _ => ?_) (fun H xs s e r => by subst r; exact hd H s e)
  refine hs i x H H' N hi s ⟨acc, ea⟩ y fun H4 s4 => k _ H4 s4 ?_ ?_
  · rw [r, List.length_map, List.length_range]
    omega
  · rw [r, List.range_succ, List.map_append]
    rfl
/-- every turn gives data -/
theorem lc_data {K : PySem.W.Frag} {J : It} {n : Nat} {G : Hp → Prop} {Y : Nat → Hp → V → Hp → Prop} (w : Walk J n G Y) {g : TG} {te : TE} {vs : List Nat} {σ : L2.St} {H1 : Hp} {D : Addr} {Qd : Hp → Prop} (f : Nat → PyData) (hD : H1 D = none) (hn : n ≤ sizeLine)
    (hG : ∀ H, Same H1 H → G H)
    (hs : ∀ i x H H' (N : V → Hp → Prop), i < n → Same H1 H → (∃ acc, H D = some (.lst acc)) → Y i H x H' → (∀ y H4, Same H H4 → Dp K (del H4 D) y (f i) → N y H4) → g x (wipe σ vs) H' fun σ2 H2 => wipe σ2 vs = wipe σ vs ∧ te σ2 H2 N)
    (hd : ∀ H xs, Same H1 H → H D = some (.lst xs) → DpAll K (del H D) xs ((List.range n).map f) → Qd H) :
    ∃ W : Nat → Nat → Hp → Prop, (∃ m, W 0 m (upd H1 D (.lst []))) ∧ ∀ i m H, W i m H →
      (J.stop i H ∧ Qd H) ∨ (J.go i H ∧ ∃ Nx : Hp → Prop, (∀ H', Nx H' → ∃ m', m' < m ∧ W (i + 1) m' H') ∧ ∀ x H', J.yld i H x H' → g x (wipe σ vs) H' fun σ2 H2 => wipe σ2 vs = wipe σ vs ∧ tYes σ2 H2 fun b H3 =>
        if b = true then te σ2 H3 fun y H4 => ∃ acc, H4 D = some (.lst acc) ∧ acc.length < sizeLine ∧ Nx (upd H4 D (.lst (acc ++ [y]))) else Nx H3) := by
  refine lcg w (fun i acc H => DpAll K H acc ((List.range i).map f)) hD hG (fun _ _ _ _ s r => dpa_same s r) .nil (fun i x H H' acc N N0 hi s ea r y k _ => ?_) hd
  refine hs i x H H' N hi s ⟨acc, ea⟩ y fun v H4 s4 d4 => k v H4 s4 ?_ ?_
  · rw [dpa_length r, List.length_map, List.length_range]
    omega
  · rw [List.range_succ, List.map_append]
    exact dpa_snoc d4 (dpa_same (same_dels s4 D) r)
/-- with a test: ints are kept or not -/
theorem lc_filt {J : It} {n : Nat} {G : Hp → Prop} {Y : Nat → Hp → V → Hp → Prop} (w : Walk J n G Y) {g : TG} {tt : L2.TT} {te : TE} {vs : List Nat} {σ : L2.St} {H1 : Hp} {D : Addr} {Qd : Hp → Prop} (p : Nat → Bool) (f : Nat → V) (hD : H1 D = none) (hn : n ≤ sizeLine)
    (hG : ∀ H, Same H1 H → G H)
    (hs : ∀ i x H H' (N : V → Hp → Prop) (N0 : Hp → Prop), i < n → Same H1 H → (∃ acc, H D = some (.lst acc)) → Y i H x H' → (p i = true → ∀ H4, Same H H4 → N (f i) H4) → (p i = false → ∀ H3, Same H H3 → N0 H3) → g x (wipe σ vs) H' fun σ2 H2 => wipe σ2 vs = wipe σ vs ∧ tt σ2 H2 fun b H3 => if b = true then te σ2 H3 N else N0 H3)
    (hd : ∀ H, Same H1 H → H D = some (.lst (((List.range n).filter p).map f)) → Qd H) :
    ∃ W : Nat → Nat → Hp → Prop, (∃ m, W 0 m (upd H1 D (.lst []))) ∧ ∀ i m H, W i m H →
      (J.stop i H ∧ Qd H) ∨ (J.go i H ∧ ∃ Nx : Hp → Prop, (∀ H', Nx H' → ∃ m', m' < m ∧ W (i + 1) m' H') ∧ ∀ x H', J.yld i H x H' → g x (wipe σ vs) H' fun σ2 H2 => wipe σ2 vs = wipe σ vs ∧ tt σ2 H2 fun b H3 =>
        if b = true then te σ2 H3 fun y H4 => ∃ acc, H4 D = some (.lst acc) ∧ acc.length < sizeLine ∧ Nx (upd H4 D (.lst (acc ++ [y]))) else Nx H3) := by
  refine lcg w (fun i acc _ => acc = ((List.range i).filter p).map f) hD hG (fun _ _ _ _ _ r => r) rfl (fun i x H H' acc N N0 hi s ea r y k k0 => ?_) (fun H xs s e r => by subst r; exact hd H s e)
  refine hs i x H H' N N0 hi s ⟨acc, ea⟩ y (fun hp H4 s4 => k _ H4 s4 ?_ ?_) (fun hp H3 s3 => k0 H3 s3 ?_)
  · have h1 := List.length_filter_le p (List.range i)
    rw [List.length_range] at h1
    rw [r, List.length_map]
    omega
  · rw [r, List.range_succ, List.filter_append, List.map_append]
    simp [hp]
  · rw [r, List.range_succ, List.filter_append, List.map_append]
    simp [hp]
end K61

set_option Elab.async false
set_option linter.all false
set_option maxRecDepth 100000
set_option maxHeartbeats 4000000
/-! A rule of our own: sorted of a list of pairs whose first items are ints, no two alike. -/
namespace K61
open PySem PySem.Spec PyProof.Rows L2 SrtO Srt
/-- v is a pair in the heap, x its first item -/
def Fst (h : Heap) (v : Value) (x : Int) : Prop := ∃ a o t u n, v = .ref a ∧ h.get? a = some o ∧ o.cls = .type "tuple" ∧ o.data = .seq #[.int x t, u] n
theorem Fst.keeps {h h' : Heap} {v : Value} {x : Int} (p : Fst h v x) (k : ∀ b o, h.get? b = some o → o.cls = .type "tuple" → h'.get? b = some o) : Fst h' v x := by
  obtain ⟨a, o, t, u, n, e, ho, hc, hd⟩ := p
  exact ⟨a, o, t, u, n, e, k _ _ ho hc, hc, hd⟩
section
variable {prog : Program} {w : World} {A : Around} {E : Value → Shared → Prop} {s : Shared}
theorem fsts_of {h : Heap} : ∀ {vs : List Value}, (∀ v ∈ vs, ∃ x, Fst h v x) → ∃ fs : List Value, PySem.W.KatTups h vs fs ∧ fs.length = vs.length ∧ ∀ f ∈ fs, ∃ x t, f = Value.int x t
  | [], _ => ⟨[], PySem.W.KatTups.nil, rfl, fun _ hm => by simp at hm⟩
  | v :: vs, hp => by
    obtain ⟨fs, h1, h2, h3⟩ := fsts_of (vs := vs) fun v' hm => hp v' (List.mem_cons_of_mem _ hm)
    obtain ⟨x, a, o, t, u, n, e, ho, hc, hd⟩ := hp v List.mem_cons_self
    subst e
    refine ⟨.int x t :: fs, PySem.W.KatTups.cons ho hc hd rfl h1, by simp [h2], fun f hm => ?_⟩
    rcases List.mem_cons.mp hm with rfl | hm
    · exact ⟨x, t, rfl⟩
    · exact h3 f hm
theorem swo_fst (k : Value → Int) : Swo fun v u => decide (k v < k u) := by
  refine ⟨fun x y h => ?_, fun x y z h1 h2 => ?_⟩
  · have a := of_decide_eq_true h
    exact decide_eq_false (by omega)
  · have a := of_decide_eq_false h1
    have b := of_decide_eq_false h2
    exact decide_eq_false (by omega)
theorem fst_cmp {vs : List Value} {k : Value → Int} (hp : ∀ v ∈ vs, Fst s.heap v (k v)) (inj : ∀ v ∈ vs, ∀ u ∈ vs, k v = k u → v = u) : Cmp prog w A s (tuples' true) (fun p => p.1 ∈ vs) (lt2 fun v u => decide (k v < k u)) := by
  intro p q hm hm'
  have i1 := inj _ hm _ hm'
  have h1 := hp _ hm
  have h2 := hp _ hm'
  show wpAny (model prog w) A (keyLt' (tuples' true) p.1 q.1) (fun r s' => s' = s ∧ r = decide (k p.1 < k q.1)) (fun _ _ => False) s
  generalize k p.1 = x at h1 i1 ⊢
  generalize k q.1 = x' at h2 i1 ⊢
  obtain ⟨a, o, t, u, n, e, ho, hc, hd⟩ := h1
  obtain ⟨a', o', t', u', n', e', ho', hc', hd'⟩ := h2
  rw [e, e'] at i1 ⊢
  refine PySem.W.kat_lt ho hd ho' hd' ?_
  show PySem.W.KatLex prog w A true (decide (2 < 2)) _ [(.int x t, .int x' t'), (u, u')] 0 s
  refine PySem.W.kat_cons (SeqAt.EqAt.int_int x t x' t' prog w _ _ ?_)
  refine PySem.W.kat_go (fun e1 => ?_) (fun e1 => ?_)
  · have ex : x = x' := by simpa using e1
    have ea : a = a' := by
      have z := i1 ex
      injection z
    subst ea
    rw [ho] at ho'
    cases ho'
    rw [hd] at hd'
    have eu : u = u' := by
      injection hd' with z1 z2
      have z3 := congrArg Array.toList z1
      simp at z3
      exact z3.2
    subst eu
    refine PySem.W.kat_yes (PySem.W.kat_cons (SeqAt.EqAt.same u prog w _ _ ?_))
    refine PySem.W.kat_yes (PySem.W.kat_nil ⟨rfl, ?_⟩)
    rw [ex]
    exact (decide_eq_false (Int.lt_irrefl _)).symm
  · exact PySem.W.kat_no (oneLt_int ⟨rfl, rfl⟩)
theorem fst_sortable {a : Addr} {vs : List Value} {k : Value → Int} (h0 : 0 < vs.length) (hp : ∀ v ∈ vs, Fst s.heap v (k v)) (inj : ∀ v ∈ vs, ∀ u ∈ vs, k v = k u → v = u) (ha : ∀ o, s.heap.get? a = some o → o.cls ≠ .type "tuple") : SortableO prog w A s a vs fun v u => decide (k v < k u) := by
  intro h' keep
  have hp' : ∀ v ∈ vs, Fst h' v (k v) := fun v hm => (hp v hm).keeps fun b o e c => keep b o (fun z => by subst z; exact ha o e c) e
  obtain ⟨fs, h1, h2, h3⟩ := fsts_of fun v hm => ⟨_, hp' v hm⟩
  refine ⟨tuples' true, fun Q E hq => ?_, fst_cmp hp' inj⟩
  refine PySem.W.kat_kind (T := .type "int") h1 (by omega) (fun f hm => ?_) (by rfl) ?_
  · obtain ⟨x, t, rfl⟩ := h3 f hm
    exact PySem.W.Looks.now
  · have e : (Value.type "int" != Value.type "tuple") = true := by first | decide +kernel | rfl | decide
    rw [e]
    exact hq
theorem sorted_fsts {l : Addr} {vs : List Value} {k : Value → Int} {Q : Value → Shared → Prop} (hl : s.heap.IsList l vs.toArray) (hz : vs.length ≤ sizeLine) (hp : ∀ v ∈ vs, Fst s.heap v (k v)) (inj : ∀ v ∈ vs, ∀ u ∈ vs, k v = k u → v = u)
    (h : ∀ (h' : Heap) (d : Addr) (out : List Value), Srtd (fun v u => decide (k v < k u)) out → out.Perm vs → (∀ b o, s.heap.get? b = some o → h'.get? b = some o) → s.heap.objs.size ≤ d → (∃ n, h'.get? d = some (seqObj "list" out.toArray n)) → Q (.ref d) { s with heap := h' }) :
    wpAny (model prog w) A (call (.builtin "sorted") [.ref l]) Q E s := by
  refine sorted_ord (swo_fst k) hl hz (fun h2 h₁ a ha kk => ?_) fun out hs hb => ?_
  · refine fst_sortable (s := { s with heap := h₁ }) (by omega) (fun v hm => (hp v hm).keeps fun b o e _ => (kk b o e).2) inj fun o e => ?_
    have e' : some o = some (seqObj "list" vs.toArray 0) := e.symm.trans ha
    cases e'
    intro c
    exact absurd (Value.type.inj c) (by decide)
  · exact h _ _ out hs hb.perm (fun b o e => sortedAll_old e) (Nat.le_succ _) (sortedAll_at s.heap vs out.toArray)
end
/-- the list at a holds the pairs at the addresses xs; k says each pair's first item -/
def rSortP (K : PySem.W.Frag) : List V → Hp → VK → Prop := fun vs H Q => ∃ (a : Addr) (xs : List Addr) (k : Addr → Int), vs = [V.ref a] ∧ SqL K H a (xs.map V.ref) ∧ (∀ x ∈ xs, ∃ v, SqT K H x [.int (k x), v]) ∧ (∀ x ∈ xs, ∀ y ∈ xs, k x = k y → x = y) ∧
  ∀ (ys : List Addr) (p : Addr), ys.Perm xs → ys.Pairwise (fun x y => k x ≤ k y) → H p = none → Q (.ref p) (upd H p (.lst (ys.map V.ref)))
theorem vals_refs : ∀ {xs : List Addr} {us : List Value}, Vals (xs.map V.ref) us → us = xs.map Value.ref
  | [], _, .nil => rfl
  | x :: xs, _ :: us, .cons r t => by
    cases r
    rw [vals_refs (xs := xs) t]
    rfl
theorem refs_vals : ∀ xs : List Addr, Vals (xs.map V.ref) (xs.map Value.ref)
  | [] => .nil
  | _ :: r => .cons rfl (refs_vals r)
def unref : Value → Addr
  | .ref a => a
  | _ => 0
theorem cr_sortP {X : Cx} : CallR X (.builtin "sorted") (rSortP X.K) := by
  intro pins s σ H vs us Q I r h
  obtain ⟨a, xs, k, rfl, hs, hx, inj, q⟩ := h
  obtain ⟨its, rv, hl, hz⟩ := I.list hs
  obtain ⟨u, rfl, ru⟩ := vals1 r
  obtain rfl : u = Value.ref a := ru
  obtain rfl := vals_refs rv
  refine sorted_fsts (k := fun u => k (unref u)) hl.isList (by simpa using hz) (fun v hv => ?_) (fun v hv u hu e => ?_) fun h' d out h1 h2 kp hd hn => ?_
  · obtain ⟨x, hx1, rfl⟩ := List.mem_map.mp hv
    obtain ⟨y, hy⟩ := hx x hx1
    obtain ⟨its2, r2, ⟨o, ho, hc, n, hd⟩, _⟩ := I.tuple hy
    obtain ⟨u1, u2, rfl, ⟨t1, rfl⟩, rj⟩ := vals2 r2
    exact ⟨x, o, t1, u2, n, rfl, ho, hc, hd⟩
  · obtain ⟨x, hx1, rfl⟩ := List.mem_map.mp hv
    obtain ⟨y, hy1, rfl⟩ := List.mem_map.mp hu
    rw [inj x hx1 y hy1 e]
  · obtain ⟨n, hn⟩ := hn
    have e1 : out = (out.map unref).map Value.ref := by
      rw [List.map_map]
      refine (List.map_id out).symm.trans (List.map_congr_left fun v hv => ?_)
      obtain ⟨x, _, rfl⟩ := List.mem_map.mp (h2.mem_iff.mp hv)
      rfl
    have hp : (out.map unref).Perm xs := by
      have z := h2.map unref
      rw [List.map_map] at z
      have e2 : xs.map (unref ∘ Value.ref) = xs := by
        rw [show (unref ∘ Value.ref) = id from rfl, List.map_id]
      rw [e2] at z
      exact z
    have hs : (out.map unref).Pairwise (fun x y => k x ≤ k y) := by
      rw [List.pairwise_map]
      refine h1.imp fun {x y} e => ?_
      have z := of_decide_eq_false e
      omega
    refine ⟨.ref d, upd H d (.lst ((out.map unref).map V.ref)), I.laid (t' := s.toks) kp hd ⟨?_, out, n, ?_, hn⟩, rfl, q _ d hp hs (I.hok.fresh hd)⟩
    · rw [List.length_map, List.length_map, h2.length_eq]
      simpa using hz
    · have z := refs_vals (out.map unref)
      rw [← e1] at z
      exact z
end K61

set_option Elab.async false
set_option linter.all false
set_option maxRecDepth 100000
set_option maxHeartbeats 4000000
/-! Plain Lean: what the defs compute over rows of numbers below a clock. -/
namespace K61
open PySem
def primes : List Nat := [3, 5, 7, 11, 31]
/-- a clock of the law -/
def Clock (c : Int) : Prop := c = 3 ∨ c = 5 ∨ c = 7 ∨ c = 11 ∨ c = 31
theorem Clock.pos {c : Int} (h : Clock c) : 0 < c := by unfold Clock at h; omega
theorem Clock.le {c : Int} (h : Clock c) : c ≤ 31 := by unfold Clock at h; omega
theorem Clock.two {c : Int} (h : Clock c) : 3 ≤ c := by unfold Clock at h; omega
def RowOk (c : Int) (n : Nat) (r : List Int) : Prop := r.length = n ∧ ∀ x ∈ r, 0 ≤ x ∧ x < c
abbrev Form := List (Nat × List Int)
def clr (c : Int) (row by' : List Int) (at' : Nat) : List Int :=
  if row.getD at' 0 = 0 then row else List.zipWith (fun e l => (e - row.getD at' 0 * l) % c) row by'
def clrBy (c : Int) (row : List Int) (form : Form) : List Int := form.foldl (fun r p => clr c r p.2 p.1) row
def leadOf : List Int → Option Nat
  | [] => none
  | x :: r => if x = 0 then (leadOf r).map (· + 1) else some 0
def IsInv (c n m : Int) : Prop := 0 < m ∧ m < c ∧ n * m % c = 1 ∧ ∀ j, 0 < j → j < m → n * j % c ≠ 1
def invOf (c n : Int) : Int := ((((List.range c.toNat).find? fun (k : Nat) => decide (n * (k : Int) % c = 1)).getD 0 : Nat) : Int)
def timesOf (c n : Int) (row : List Int) : List Int := row.map fun e => n * e % c
def insF (p : Nat × List Int) : Form → Form
  | [] => [p]
  | q :: r => if q.1 < p.1 then q :: insF p r else p :: q :: r
def withRow (c : Int) (form : Form) (row : List Int) : Form :=
  match leadOf (clrBy c row form) with
  | none => form
  | some l => insF (l, timesOf c (invOf c ((clrBy c row form).getD l 0)) (clrBy c row form)) (form.map fun p => (p.1, clr c p.2 (timesOf c (invOf c ((clrBy c row form).getD l 0)) (clrBy c row form)) l))
def formOf (c : Int) (rows : List (List Int)) : Form := rows.foldl (withRow c) []
def leastIn (c : Int) (rows : List (List Int)) : List (List Int) := (formOf c rows).map (·.2)
/-- a form: leads apart, in range, rows of one length with entries below the clock -/
structure FormOk (c : Int) (n : Nat) (F : Form) : Prop where
  row : ∀ p ∈ F, RowOk c n p.2
  lt : ∀ p ∈ F, p.1 < n
  nd : (F.map (·.1)).Nodup
  srt : (F.map (·.1)).Pairwise (· < ·)
theorem clr_ok {c : Int} {n : Nat} {r b : List Int} {i : Nat} (hc : 0 < c) (hr : RowOk c n r) (hb : b.length = n) : RowOk c n (clr c r b i) := by
  unfold clr
  split
  · exact hr
  · refine ⟨by rw [List.length_zipWith, hr.1, hb, Nat.min_self], fun x hx => ?_⟩
    obtain ⟨j, hj, e⟩ := List.getElem_of_mem hx
    rw [List.getElem_zipWith] at e
    subst e
    exact ⟨Int.emod_nonneg _ (by omega), Int.emod_lt_of_pos _ hc⟩
theorem clrBy_ok {c : Int} {n : Nat} (hc : 0 < c) : ∀ {F : Form} {r : List Int}, RowOk c n r → (∀ p ∈ F, p.2.length = n) → RowOk c n (clrBy c r F)
  | [], r, hr, _ => hr
  | p :: F, r, hr, hF => by
    show RowOk c n (clrBy c (clr c r p.2 p.1) F)
    exact clrBy_ok hc (clr_ok hc hr (hF p List.mem_cons_self)) fun q hq => hF q (List.mem_cons_of_mem _ hq)
theorem leadOf_some : ∀ {r : List Int} {l : Nat}, leadOf r = some l → l < r.length ∧ r.getD l 0 ≠ 0 ∧ ∀ j, j < l → r.getD j 0 = 0
  | [], l, h => by cases h
  | x :: r, l, h => by
    unfold leadOf at h
    split at h
    · rename_i hx
      cases e : leadOf r with
      | none => rw [e] at h; cases h
      | some m =>
        rw [e] at h
        cases h
        obtain ⟨h1, h2, h3⟩ := leadOf_some e
        refine ⟨by simpa using h1, by simpa using h2, fun j hj => ?_⟩
        cases j with
        | zero => simpa using hx
        | succ j => simpa using h3 j (Nat.lt_of_succ_lt_succ hj)
    · rename_i hx
      cases h
      exact ⟨by simp, by simpa using hx, fun j hj => by omega⟩
theorem leadOf_none : ∀ {r : List Int}, leadOf r = none → ∀ x ∈ r, x = 0
  | [], _, x, hx => by cases hx
  | y :: r, h, x, hx => by
    unfold leadOf at h
    split at h
    · rename_i hy
      rcases List.mem_cons.mp hx with e | hx
      · rw [e]; exact hy
      · refine leadOf_none ?_ x hx
        cases e : leadOf r with
        | none => rfl
        | some m => rw [e] at h; cases h
    · cases h
theorem leadOf_at {r : List Int} {l : Nat} (h1 : l < r.length) (h2 : r.getD l 0 ≠ 0) (h3 : ∀ j, j < l → r.getD j 0 = 0) : leadOf r = some l := by
  cases e : leadOf r with
  | none =>
    refine absurd (leadOf_none e (r.getD l 0) ?_) h2
    rw [List.getD_eq_getElem?_getD, List.getElem?_eq_getElem h1]
    exact List.getElem_mem h1
  | some m =>
    obtain ⟨k1, k2, k3⟩ := leadOf_some e
    by_cases z : m < l
    · exact absurd (h3 m z) k2
    · by_cases z2 : l < m
      · exact absurd (k3 l z2) h2
      · rw [show m = l by omega]
theorem getD_row {c : Int} {n : Nat} {r : List Int} (hc : 0 < c) (h : RowOk c n r) (i : Nat) : 0 ≤ r.getD i 0 ∧ r.getD i 0 < c := by
  rw [List.getD_eq_getElem?_getD]
  by_cases hi : i < r.length
  · rw [List.getElem?_eq_getElem hi]
    exact h.2 _ (List.getElem_mem hi)
  · rw [List.getElem?_eq_none (by omega)]
    exact ⟨Int.le_refl _, hc⟩
/-! ### inverses -/
theorem inv_tab : ∀ p ∈ primes, ∀ n ∈ List.range p, n ≠ 0 → ∃ k ∈ List.range p, (n * k) % p = 1 := by decide +kernel
theorem isInv_of {c n : Int} (hc : Clock c) (h0 : 0 ≤ n) (h1 : n < c) (hn : n ≠ 0) : IsInv c n (invOf c n) := by
  obtain ⟨p, hp, rfl⟩ : ∃ p ∈ primes, c = (p : Int) := by
    rcases hc with h | h | h | h | h
    · exact ⟨3, by decide, h⟩
    · exact ⟨5, by decide, h⟩
    · exact ⟨7, by decide, h⟩
    · exact ⟨11, by decide, h⟩
    · exact ⟨31, by decide, h⟩
  obtain ⟨m, rfl⟩ : ∃ m : Nat, n = (m : Int) := ⟨n.toNat, by omega⟩
  obtain ⟨k, hk, e⟩ := inv_tab p hp m (List.mem_range.mpr (by omega)) (by omega)
  have e' : ((m : Int) * (k : Int)) % (p : Int) = 1 := by
    have z := congrArg (fun x : Nat => (x : Int)) e
    simpa using z
  have tn : (p : Int).toNat = p := by omega
  unfold invOf
  rw [tn]
  cases f : (List.range p).find? fun (k : Nat) => decide ((m : Int) * (k : Int) % (p : Int) = 1) with
  | none =>
    have z := List.find?_eq_none.mp f k hk
    rw [decide_eq_true e'] at z
    exact absurd rfl z
  | some j =>
    have hj := List.find?_some f
    have hj1 : (m : Int) * (j : Int) % (p : Int) = 1 := of_decide_eq_true hj
    have hjm := List.mem_range.mp (List.mem_of_find?_eq_some f)
    have c3 := hc.two
    have hj0 : j ≠ 0 := by
      rintro rfl
      simp at hj1
    show IsInv (p : Int) (m : Int) (j : Int)
    refine ⟨by omega, by omega, hj1, fun i hi0 hij q => ?_⟩
    obtain ⟨i', rfl⟩ : ∃ i' : Nat, i = (i' : Int) := ⟨i.toNat, by omega⟩
    obtain ⟨as, bs, e1, e2⟩ := List.find?_eq_some_iff_append.mp f |>.2
    have hlen : as.length = j := by
      have z : (List.range p)[as.length]? = some j := by rw [e1]; simp
      have z2 : as.length < p := by
        have := congrArg List.length e1
        simp at this
        omega
      rw [List.getElem?_range z2] at z
      exact Option.some.inj z
    have him : i' ∈ as := by
      have z : (List.range p)[i']? = some i' := List.getElem?_range (by omega)
      rw [e1, List.getElem?_append_left (by omega)] at z
      exact List.mem_of_getElem? z
    have z := e2 i' him
    rw [decide_eq_true q] at z
    exact absurd z (by decide)
theorem times_ok {c n : Int} {m : Nat} {r : List Int} (hc : 0 < c) (h : r.length = m) : RowOk c m (timesOf c n r) := by
  refine ⟨by unfold timesOf; rw [List.length_map, h], fun x hx => ?_⟩
  obtain ⟨y, _, rfl⟩ := List.mem_map.mp hx
  exact ⟨Int.emod_nonneg _ (by omega), Int.emod_lt_of_pos _ hc⟩
/-! ### a pair put into a sorted form -/
theorem insF_perm (p : Nat × List Int) : ∀ F : Form, (insF p F).Perm (F ++ [p])
  | [] => .refl _
  | q :: r => by
    unfold insF
    split
    · exact (insF_perm p r).cons q
    · exact (List.perm_append_singleton p (q :: r)).symm
theorem insF_srt {p : Nat × List Int} : ∀ {F : Form}, (F.map (·.1)).Pairwise (· < ·) → p.1 ∉ F.map (·.1) → ((insF p F).map (·.1)).Pairwise (· < ·)
  | [], _, _ => by simp [insF]
  | q :: r, h, hn => by
    rw [List.map_cons, List.pairwise_cons] at h
    have n1 : p.1 ≠ q.1 := fun e => hn (by simp [e])
    have n2 : p.1 ∉ r.map (·.1) := fun e => hn (List.mem_cons_of_mem _ e)
    unfold insF
    split
    · rename_i z
      rw [List.map_cons, List.pairwise_cons]
      refine ⟨fun x hx => ?_, insF_srt h.2 n2⟩
      have hx' : x ∈ (r ++ [p]).map (·.1) := ((insF_perm p r).map (·.1)).mem_iff.mp hx
      rw [List.map_append] at hx'
      rcases List.mem_append.mp hx' with e | e
      · exact h.1 x e
      · have e2 : x = p.1 := by simpa using e
        rw [e2]; exact z
    · rename_i z
      rw [List.map_cons, List.pairwise_cons]
      refine ⟨fun x hx => ?_, by rw [List.map_cons, List.pairwise_cons]; exact h⟩
      rw [List.map_cons] at hx
      rcases List.mem_cons.mp hx with e | e
      · rw [e]; omega
      · have := h.1 x e
        omega
/-- two forms with the same pairs, sorted by leads that are apart, are one -/
theorem srt_uniq : ∀ {A B : Form}, A.Perm B → (A.map (·.1)).Pairwise (· < ·) → (B.map (·.1)).Pairwise (· < ·) → A = B
  | [], B, h, _, _ => (List.Perm.nil_eq h)
  | a :: A, [], h, _, _ => absurd h.length_eq (by simp)
  | a :: A, b :: B, h, hA, hB => by
    rw [List.map_cons, List.pairwise_cons] at hA hB
    have e : a = b := by
      rcases List.mem_cons.mp (h.mem_iff.mp List.mem_cons_self) with e | hb
      · exact e
      · rcases List.mem_cons.mp (h.mem_iff.mpr (List.mem_cons_self (a := b) (l := B))) with e | ha
        · exact e.symm
        · have h1 := hA.1 b.1 (List.mem_map.mpr ⟨b, ha, rfl⟩)
          have h2 := hB.1 a.1 (List.mem_map.mpr ⟨a, hb, rfl⟩)
          omega
    subst e
    rw [srt_uniq (List.Perm.cons_inv h) hA.2 hB.2]
theorem le_lt {l : List Nat} (h : l.Pairwise (· ≤ ·)) (nd : l.Nodup) : l.Pairwise (· < ·) := by
  refine (h.and nd).imp fun {a b} ⟨x, y⟩ => ?_
  omega
end K61

set_option Elab.async false
set_option linter.all false
set_option maxRecDepth 100000
set_option maxHeartbeats 4000000
/-! Plain Lean: forms stay forms (reduced, sorted by their leads). -/
namespace K61
open PySem
theorem getD_out {r : List Int} {j : Nat} (h : r.length ≤ j) : r.getD j 0 = 0 := by
  rw [List.getD_eq_getElem?_getD, List.getElem?_eq_none h]
  rfl
theorem emod_low {c x : Int} (h0 : 0 ≤ x) (h1 : x < c) : x % c = x := Int.emod_eq_of_lt h0 h1
theorem clr_get {c : Int} {n : Nat} {r b : List Int} (hc : 0 < c) (hr : RowOk c n r) (hb : b.length = n) (i j : Nat) : (clr c r b i).getD j 0 = (r.getD j 0 - r.getD i 0 * b.getD j 0) % c := by
  obtain ⟨x0, x1⟩ := getD_row hc hr j
  unfold clr
  split
  · rename_i h
    rw [h, Int.zero_mul, Int.sub_zero, emod_low x0 x1]
  · by_cases hj : j < n
    · rw [List.getD_eq_getElem?_getD, List.getElem?_zipWith, List.getD_eq_getElem?_getD (i := j), List.getD_eq_getElem?_getD (l := b), List.getElem?_eq_getElem (by rw [hr.1]; exact hj), List.getElem?_eq_getElem (by rw [hb]; exact hj)]
      rfl
    · rw [getD_out (r := r) (j := j) (by rw [hr.1]; omega), getD_out (r := b) (by rw [hb]; omega), getD_out]
      · simp
      · rw [List.length_zipWith, hr.1, hb]
        omega
theorem times_get {c k : Int} (r : List Int) (j : Nat) : (timesOf c k r).getD j 0 = k * r.getD j 0 % c := by
  unfold timesOf
  rw [List.getD_eq_getElem?_getD, List.getElem?_map, List.getD_eq_getElem?_getD]
  cases r[j]? with
  | none => simp
  | some x => rfl
/-- reduced: each lead's own row has 1 there, all others 0; nothing ahead of a row's lead; leads in order -/
structure Red (c : Int) (n : Nat) (F : Form) : Prop where
  row : ∀ p ∈ F, RowOk c n p.2
  lt : ∀ p ∈ F, p.1 < n
  srt : (F.map (·.1)).Pairwise (· < ·)
  red : ∀ p ∈ F, ∀ q ∈ F, q.2.getD p.1 0 = if p.1 = q.1 then 1 else 0
  low : ∀ p ∈ F, ∀ j, j < p.1 → p.2.getD j 0 = 0
theorem Red.nil {c : Int} {n : Nat} : Red c n [] where
  row := fun _ h => absurd h (by simp)
  lt := fun _ h => absurd h (by simp)
  srt := List.Pairwise.nil
  red := fun _ h => absurd h (by simp)
  low := fun _ h => absurd h (by simp)
theorem Red.nd {c : Int} {n : Nat} {F : Form} (h : Red c n F) : (F.map (·.1)).Nodup := h.srt.imp fun {a b} z => by omega
theorem clrBy_zero {c : Int} {n : Nat} {F : Form} (hc : 0 < c) (h : Red c n F) : ∀ (G : Form) (r : List Int), (∀ q ∈ G, q ∈ F) → RowOk c n r → ∀ p ∈ F, (r.getD p.1 0 = 0 ∨ p ∈ G) → (clrBy c r G).getD p.1 0 = 0
  | [], r, _, _, p, _, hp => by
    rcases hp with hp | hp
    · exact hp
    · cases hp
  | q :: G, r, hG, hr, p, hpF, hp => by
    have hq := hG q List.mem_cons_self
    refine clrBy_zero hc h G (clr c r q.2 q.1) (fun x hx => hG x (List.mem_cons_of_mem _ hx)) (clr_ok hc hr (h.row q hq).1) p hpF ?_
    rw [clr_get hc hr (h.row q hq).1, h.red p hpF q hq]
    by_cases e : p.1 = q.1
    · left
      rw [if_pos e, e]
      simp
    · rw [if_neg e]
      rcases hp with hp | hp
      · left
        rw [hp]
        simp
      · rcases List.mem_cons.mp hp with z | z
        · exact absurd (by rw [z]) e
        · exact .inr z
theorem clrBy_lead {c : Int} {n : Nat} {F : Form} {r : List Int} (hc : 0 < c) (h : Red c n F) (hr : RowOk c n r) : ∀ p ∈ F, (clrBy c r F).getD p.1 0 = 0 := fun p hp => clrBy_zero hc h F r (fun _ z => z) hr p hp (.inr hp)
/-- what a row gives to a form: the new pair, the old ones cleared by it -/
theorem withRow_eq {c : Int} (F : Form) (r : List Int) {l : Nat} (e : leadOf (clrBy c r F) = some l) : withRow c F r =
    insF (l, timesOf c (invOf c ((clrBy c r F).getD l 0)) (clrBy c r F)) (F.map fun p => (p.1, clr c p.2 (timesOf c (invOf c ((clrBy c r F).getD l 0)) (clrBy c r F)) l)) := by
  unfold withRow
  rw [e]
theorem withRow_no {c : Int} (F : Form) (r : List Int) (e : leadOf (clrBy c r F) = none) : withRow c F r = F := by
  unfold withRow
  rw [e]
theorem withRow_red {c : Int} {n : Nat} {F : Form} {r : List Int} (hc : Clock c) (h : Red c n F) (hr : RowOk c n r) : Red c n (withRow c F r) := by
  have c0 := hc.pos
  have c1 := hc.two
  have hL : RowOk c n (clrBy c r F) := clrBy_ok c0 hr fun p hp => (h.row p hp).1
  have hz := clrBy_lead c0 h hr
  cases e : leadOf (clrBy c r F) with
  | none =>
    rw [withRow_no F r e]
    exact h
  | some l =>
    rw [withRow_eq F r e]
    generalize clrBy c r F = L at hL hz e ⊢
    obtain ⟨l1, l2, l3⟩ := leadOf_some e
    obtain ⟨x0, x1⟩ := getD_row c0 hL l
    obtain ⟨i0, i1, i2, i3⟩ := isInv_of hc x0 x1 l2
    generalize invOf c (L.getD l 0) = k at i0 i1 i2 i3 ⊢
    have hN : RowOk c n (timesOf c k L) := times_ok c0 hL.1
    have nl : (timesOf c k L).getD l 0 = 1 := by
      rw [times_get, Int.mul_comm]
      exact i2
    have n0 : ∀ j, L.getD j 0 = 0 → (timesOf c k L).getD j 0 = 0 := fun j hj => by
      rw [times_get, hj]
      simp
    generalize timesOf c k L = N at hN nl n0 ⊢
    have ln : l < n := by rw [← hL.1]; exact l1
    have lne : ∀ p ∈ F, p.1 ≠ l := fun p hp z => l2 (by rw [← z]; exact hz p hp)
    have mem : ∀ p, p ∈ insF (l, N) (F.map fun p => (p.1, clr c p.2 N l)) → p = (l, N) ∨ ∃ q ∈ F, p = (q.1, clr c q.2 N l) := fun p hp => by
      have hp' := (insF_perm (l, N) _).mem_iff.mp hp
      rcases List.mem_append.mp hp' with z | z
      · obtain ⟨q, hq, rfl⟩ := List.mem_map.mp z
        exact .inr ⟨q, hq, rfl⟩
      · exact .inl (by simpa using z)
    have lds : (F.map fun p => (p.1, clr c p.2 N l)).map (·.1) = F.map (·.1) := by
      rw [List.map_map]
      rfl
    have old : ∀ q ∈ F, ∀ j, (clr c q.2 N l).getD j 0 = (q.2.getD j 0 - q.2.getD l 0 * N.getD j 0) % c := fun q hq j => clr_get c0 (h.row q hq) hN.1 l j
    have keep : ∀ q ∈ F, ∀ j, N.getD j 0 = 0 → (clr c q.2 N l).getD j 0 = q.2.getD j 0 := fun q hq j hj => by
      obtain ⟨y0, y1⟩ := getD_row c0 (h.row q hq) j
      rw [old q hq j, hj, Int.mul_zero, Int.sub_zero, emod_low y0 y1]
    have atl : ∀ q ∈ F, (clr c q.2 N l).getD l 0 = 0 := fun q hq => by
      rw [old q hq l, nl]
      simp
    refine ⟨fun p hp => ?_, fun p hp => ?_, ?_, fun p hp q hq => ?_, fun p hp j hj => ?_⟩
    · rcases mem p hp with rfl | ⟨q, hq, rfl⟩
      · exact hN
      · exact clr_ok c0 (h.row q hq) hN.1
    · rcases mem p hp with rfl | ⟨q, hq, rfl⟩
      · exact ln
      · exact h.lt q hq
    · refine insF_srt (by rw [lds]; exact h.srt) ?_
      rw [lds]
      intro z
      obtain ⟨p, hp, e2⟩ := List.mem_map.mp z
      exact lne p hp e2
    · rcases mem p hp with rfl | ⟨p', hp', rfl⟩
      · rcases mem q hq with rfl | ⟨q', hq', rfl⟩
        · rw [if_pos rfl]
          exact nl
        · rw [if_neg (fun z => lne q' hq' z.symm)]
          exact atl q' hq'
      · rcases mem q hq with rfl | ⟨q', hq', rfl⟩
        · rw [if_neg (lne p' hp')]
          exact n0 _ (hz p' hp')
        · show (clr c q'.2 N l).getD p'.1 0 = if p'.1 = q'.1 then 1 else 0
          rw [keep q' hq' _ (n0 _ (hz p' hp'))]
          exact h.red p' hp' q' hq'
    · rcases mem p hp with rfl | ⟨q, hq, rfl⟩
      · exact n0 j (l3 j hj)
      · have hj' : j < q.1 := hj
        show (clr c q.2 N l).getD j 0 = 0
        by_cases z : q.2.getD l 0 = 0
        · rw [old q hq j, z, Int.zero_mul, Int.sub_zero, h.low q hq j hj']
          simp
        · have z2 : ¬ l < q.1 := fun y => z (h.low q hq l y)
          rw [keep q hq j (n0 j (l3 j (by omega)))]
          exact h.low q hq j hj'
theorem foldRow_red {c : Int} {n : Nat} (hc : Clock c) : ∀ {rows : List (List Int)} {F : Form}, Red c n F → (∀ r ∈ rows, RowOk c n r) → Red c n (rows.foldl (withRow c) F)
  | [], _, h, _ => h
  | r :: rows, F, h, hr => foldRow_red hc (rows := rows) (withRow_red hc h (hr r List.mem_cons_self)) fun x hx => hr x (List.mem_cons_of_mem _ hx)
theorem formOf_red {c : Int} {n : Nat} {rows : List (List Int)} (hc : Clock c) (hr : ∀ r ∈ rows, RowOk c n r) : Red c n (formOf c rows) := foldRow_red hc Red.nil hr
theorem srt_len : ∀ {l : List Nat} {a n : Nat}, l.Pairwise (· < ·) → (∀ x ∈ l, a ≤ x ∧ x < n) → l.length ≤ n - a
  | [], _, _, _, _ => Nat.zero_le _
  | x :: l, a, n, h, hl => by
    rw [List.pairwise_cons] at h
    have h1 := hl x List.mem_cons_self
    have h2 := srt_len (l := l) (a := x + 1) (n := n) h.2 fun y hy => ⟨h.1 y hy, (hl y (List.mem_cons_of_mem _ hy)).2⟩
    rw [List.length_cons]
    omega
theorem Red.len {c : Int} {n : Nat} {F : Form} (h : Red c n F) : F.length ≤ n := by
  have z := srt_len (a := 0) (n := n) h.srt fun x hx => by
    obtain ⟨p, hp, rfl⟩ := List.mem_map.mp hx
    exact ⟨Nat.zero_le _, h.lt p hp⟩
  simpa using z
end K61

set_option Elab.async false
set_option linter.all false
set_option maxRecDepth 100000
set_option maxHeartbeats 4000000
/-! Plain Lean: whites, blacks, fair rows, differences, swing, upright rows: what the defs compute. -/
namespace K61
open PySem
def whitesOf (c : Int) (r : List Int) : List Int := (evens (r.drop 2)).map fun x => (x - r.getD 0 0) % c
def blacksOf (c : Int) (r : List Int) : List Int := List.zipWith (fun x y => (y - x) % c) (evens (r.drop 1)) (evens (r.drop 3))
def withW (ws : List Int) : List Int := ws.foldl (fun f x => f ++ [x, 0]) [0, 0]
def withB (c : Int) (bs : List Int) : List Int := bs.foldl (fun f x => f ++ [0, (f.getLastD 0 + x) % c]) [0, 0]
def diffOf (c : Int) (r : List Int) : List Int := (List.range r.length).map fun g => (r.getD (if g = 0 then r.length - 1 else g - 1) 0 - r.getD ((g + 1) % r.length) 0) % c
def swingOf (c : Int) (a b : List Int) : Int := (List.zipWith (fun x y => x * y) (diffOf c a) b).sum % c
/-- an upright row: 1 at its place, what clears it at the leads -/
def upRow (c : Int) (n : Nat) (F : Form) (at' : Nat) : List Int := F.foldl (fun row p => row.set p.1 (-(p.2.getD at' 0) % c)) ((List.range n).map fun pl => if pl = at' then 1 else 0)
def isLead (F : Form) (at' : Nat) : Bool := F.any fun p => decide (p.1 = at')
def upRows (c : Int) (n : Nat) (F : Form) : List (List Int) := ((List.range n).filter fun a => !isLead F a).map (upRow c n F)
theorem upRow_len {c : Int} {at' : Nat} : ∀ (F : Form) (r : List Int), (F.foldl (fun row p => row.set p.1 (-(p.2.getD at' 0) % c)) r).length = r.length
  | [], _ => rfl
  | p :: F, r => by
    rw [List.foldl_cons, upRow_len F]
    exact List.length_set
theorem red_lead {c : Int} {n : Nat} {F : Form} (h : Red c n F) : ∀ p ∈ F, leadOf p.2 = some p.1 := fun p hp => by
  refine leadOf_at (by rw [(h.row p hp).1]; exact h.lt p hp) ?_ (h.low p hp)
  rw [h.red p hp p hp, if_pos rfl]
  decide
theorem foldl_app_len {α β : Type} (g : List α → β → List α) (k : Nat) (hg : ∀ f x, (g f x).length = f.length + k) : ∀ (l : List β) (f : List α), (l.foldl g f).length = f.length + k * l.length
  | [], f => by simp
  | x :: l, f => by
    rw [List.foldl_cons, foldl_app_len g k hg l, hg, List.length_cons, Nat.mul_add]
    omega
theorem withW_len (ws : List Int) : (withW ws).length = 2 + 2 * ws.length := foldl_app_len _ 2 (fun f x => by simp) ws _
theorem withB_len (c : Int) (bs : List Int) : (withB c bs).length = 2 + 2 * bs.length := foldl_app_len _ 2 (fun f x => by simp) bs _
theorem whites_len (c : Int) (r : List Int) : (whitesOf c r).length = (r.length - 1) / 2 := by
  unfold whitesOf
  rw [List.length_map, evens_len, List.length_drop]
  omega
theorem blacks_len (c : Int) (r : List Int) : (blacksOf c r).length = (r.length - 2) / 2 := by
  unfold blacksOf
  rw [List.length_zipWith, evens_len, evens_len, List.length_drop, List.length_drop]
  omega
end K61

set_option Elab.async false
set_option linter.all false
set_option maxRecDepth 100000
set_option maxHeartbeats 4000000
/-! Plain Lean: bounds of what the defs make. -/
namespace K61
open PySem
theorem upRow_ok {c : Int} {n : Nat} {F : Form} {a : Nat} (hc : Clock c) : RowOk c n (upRow c n F a) := by
  have c0 := hc.two
  have main : ∀ (F : Form) (r : List Int), RowOk c n r → RowOk c n (F.foldl (fun row p => row.set p.1 (-(p.2.getD a 0) % c)) r) := by
    intro F
    induction F with
    | nil => exact fun r h => h
    | cons p F ih =>
      intro r h
      refine ih _ ⟨by rw [List.length_set, h.1], fun x hx => ?_⟩
      rcases List.mem_or_eq_of_mem_set hx with hx | hx
      · exact h.2 x hx
      · rw [hx]
        exact ⟨Int.emod_nonneg _ (by omega), Int.emod_lt_of_pos _ (by omega)⟩
  refine main F _ ⟨by rw [List.length_map, List.length_range], fun x hx => ?_⟩
  obtain ⟨j, _, rfl⟩ := List.mem_map.mp hx
  by_cases h : j = a
  · rw [if_pos h]; omega
  · rw [if_neg h]; omega
theorem upRows_ok {c : Int} {n : Nat} {F : Form} (hc : Clock c) : ∀ r ∈ upRows c n F, RowOk c n r := fun r hr => by
  obtain ⟨a, _, rfl⟩ := List.mem_map.mp hr
  exact upRow_ok hc
theorem upRows_len (c : Int) (n : Nat) (F : Form) : (upRows c n F).length ≤ n := by
  unfold upRows
  rw [List.length_map]
  exact Nat.le_trans (List.length_filter_le _ _) (by rw [List.length_range]; exact Nat.le_refl _)
theorem leastIn_ok {c : Int} {n : Nat} {rows : List (List Int)} (hc : Clock c) (h : ∀ r ∈ rows, RowOk c n r) : ∀ r ∈ leastIn c rows, RowOk c n r := fun r hr => by
  obtain ⟨p, hp, rfl⟩ := List.mem_map.mp hr
  exact (formOf_red hc h).row p hp
theorem leastIn_len {c : Int} {n : Nat} {rows : List (List Int)} (hc : Clock c) (h : ∀ r ∈ rows, RowOk c n r) : (leastIn c rows).length ≤ n := by
  unfold leastIn
  rw [List.length_map]
  exact (formOf_red hc h).len
/-- what upright(space) holds, of a space whose form is F -/
def uprOf (c : Int) (n : Nat) (F : Form) : List (List Int) := leastIn c (leastIn c (upRows c n F))
theorem uprOf_ok {c : Int} {n : Nat} {F : Form} (hc : Clock c) : ∀ r ∈ uprOf c n F, RowOk c n r := leastIn_ok hc (leastIn_ok hc (upRows_ok hc))
theorem uprOf_len {c : Int} {n : Nat} {F : Form} (hc : Clock c) : (uprOf c n F).length ≤ n := leastIn_len hc (leastIn_ok hc (upRows_ok hc))
def rep01 (n : Nat) : List Int := (List.replicate n [0, 1]).flatten
def rep10 (n : Nat) : List Int := (List.replicate n [1, 0]).flatten
theorem rep_ok {c : Int} (hc : Clock c) (x y : Int) (hx : 0 ≤ x ∧ x ≤ 1) (hy : 0 ≤ y ∧ y ≤ 1) : ∀ n : Nat, RowOk c (2 * n) (List.replicate n [x, y]).flatten
  | 0 => ⟨rfl, fun _ h => absurd h (by simp)⟩
  | n + 1 => by
    have c0 := hc.two
    obtain ⟨h1, h2⟩ := rep_ok hc x y hx hy n
    rw [List.replicate_succ, List.flatten_cons]
    refine ⟨by rw [List.length_append, h1]; show 2 + 2 * n = 2 * (n + 1); omega, fun z hz => ?_⟩
    rcases List.mem_append.mp hz with hz | hz
    · rcases List.mem_cons.mp hz with rfl | hz
      · omega
      · have e : z = y := by simpa using hz
        omega
    · exact h2 z hz
theorem withW_ok {c : Int} {n : Nat} {r : List Int} (hc : Clock c) (h : RowOk c n r) : RowOk c (2 * (n + 1)) (withW r) := by
  have c0 := hc.two
  refine ⟨by rw [withW_len, h.1]; omega, ?_⟩
  have main : ∀ (l f : List Int), (∀ x ∈ l, 0 ≤ x ∧ x < c) → (∀ x ∈ f, 0 ≤ x ∧ x < c) → ∀ x ∈ l.foldl (fun f x => f ++ [x, 0]) f, 0 ≤ x ∧ x < c := by
    intro l
    induction l with
    | nil => exact fun f _ hf => hf
    | cons y l ih =>
      intro f hl hf
      refine ih _ (fun x hx => hl x (List.mem_cons_of_mem _ hx)) fun x hx => ?_
      rcases List.mem_append.mp hx with hx | hx
      · exact hf x hx
      · rcases List.mem_cons.mp hx with rfl | hx
        · exact hl x List.mem_cons_self
        · have e : x = 0 := by simpa using hx
          omega
  refine main r [0, 0] h.2 fun x hx => ?_
  have e : x = 0 := by simpa using hx
  omega
theorem withB_ok {c : Int} {n : Nat} {r : List Int} (hc : Clock c) (h : r.length = n) : RowOk c (2 * (n + 1)) (withB c r) := by
  have c0 := hc.two
  refine ⟨by rw [withB_len, h]; omega, ?_⟩
  have main : ∀ (l f : List Int), (∀ x ∈ f, 0 ≤ x ∧ x < c) → ∀ x ∈ l.foldl (fun f x => f ++ [0, (f.getLastD 0 + x) % c]) f, 0 ≤ x ∧ x < c := by
    intro l
    induction l with
    | nil => exact fun f hf => hf
    | cons y l ih =>
      intro f hf
      refine ih _ fun x hx => ?_
      rcases List.mem_append.mp hx with hx | hx
      · exact hf x hx
      · rcases List.mem_cons.mp hx with rfl | hx
        · omega
        · have e : x = (f.getLastD 0 + y) % c := by simpa using hx
          rw [e]
          exact ⟨Int.emod_nonneg _ (by omega), Int.emod_lt_of_pos _ (by omega)⟩
  refine main r [0, 0] fun x hx => ?_
  have e : x = 0 := by simpa using hx
  omega
/-- the rows that fair_by hands to Space -/
def fairRows (c : Int) (n : Nat) (F : Form) : List (List Int) := [rep10 (n + 1), rep01 (n + 1)] ++ (F.map (·.2)).map withW ++ (uprOf c n F).map (withB c)
theorem fairRows_ok {c : Int} {n : Nat} {F : Form} (hc : Clock c) (h : Red c n F) : ∀ r ∈ fairRows c n F, RowOk c (2 * (n + 1)) r := fun r hr => by
  rcases List.mem_append.mp hr with hr | hr
  · rcases List.mem_append.mp hr with hr | hr
    · rcases List.mem_cons.mp hr with rfl | hr
      · exact rep_ok hc 1 0 (by omega) (by omega) (n + 1)
      · have e : r = rep01 (n + 1) := by simpa using hr
        rw [e]
        exact rep_ok hc 0 1 (by omega) (by omega) (n + 1)
    · obtain ⟨q, hq, rfl⟩ := List.mem_map.mp hr
      obtain ⟨p, hp, rfl⟩ := List.mem_map.mp hq
      exact withW_ok hc (h.row p hp)
  · obtain ⟨q, hq, rfl⟩ := List.mem_map.mp hr
    exact withB_ok hc (uprOf_ok hc q hq).1
theorem fairRows_len {c : Int} {n : Nat} {F : Form} (hc : Clock c) (h : Red c n F) : (fairRows c n F).length ≤ 2 + n + n := by
  have h1 := h.len
  have h2 := uprOf_len (F := F) (n := n) hc
  unfold fairRows
  rw [List.length_append, List.length_append, List.length_map, List.length_map, List.length_map]
  show 2 + F.length + (uprOf c n F).length ≤ _
  omega
theorem blacks_ok {c : Int} {n : Nat} {r : List Int} (hc : Clock c) (h : r.length = n) (h4 : 4 ≤ n) (he : n % 2 = 0) : RowOk c (n / 2 - 1) (blacksOf c r) := by
  refine ⟨by rw [blacks_len, h]; omega, fun x hx => ?_⟩
  unfold blacksOf at hx
  obtain ⟨j, hj, e⟩ := List.getElem_of_mem hx
  rw [List.getElem_zipWith] at e
  subst e
  have c0 := hc.pos
  exact ⟨Int.emod_nonneg _ (by omega), Int.emod_lt_of_pos _ c0⟩
theorem whites_ok {c : Int} {n : Nat} {r : List Int} (hc : Clock c) (h : r.length = n) (h4 : 4 ≤ n) (he : n % 2 = 0) : RowOk c (n / 2 - 1) (whitesOf c r) := by
  refine ⟨by rw [whites_len, h]; omega, fun x hx => ?_⟩
  unfold whitesOf at hx
  obtain ⟨y, _, rfl⟩ := List.mem_map.mp hx
  have c0 := hc.pos
  exact ⟨Int.emod_nonneg _ (by omega), Int.emod_lt_of_pos _ c0⟩
end K61

set_option Elab.async false
set_option linter.all false
set_option maxRecDepth 100000
set_option maxHeartbeats 4000000
/-! Plain Lean: the law's own clearing, column by column. -/
namespace K61
open PySem
abbrev LState := List (List Int) × Nat
def spotsOf (st : LState) (j : Nat) : List Nat := ((List.range (st.1.length - st.2)).filter fun k => decide ((st.1.getD (st.2 + k) []).getD j 0 ≠ 0)).map fun k => st.2 + k
def leadRow (c : Int) (st : LState) (j a : Nat) : List Int := timesOf c (invOf c ((st.1.getD a []).getD j 0)) (st.1.getD a [])
def restRows (c : Int) (st : LState) (j a : Nat) : List (List Int) := (st.1.eraseIdx a).map fun r => clr c r (leadRow c st j a) j
def lawStep (c : Int) (st : LState) (j : Nat) : LState :=
  match spotsOf st j with
  | [] => st
  | a :: _ => ((restRows c st j a).take st.2 ++ [leadRow c st j a] ++ (restRows c st j a).drop st.2, st.2 + 1)
def lawRun (c : Int) (rs : List (List Int)) (k : Nat) : LState := (List.range k).foldl (lawStep c) (rs, 0)
def lawLeast (c : Int) (rs : List (List Int)) : List (List Int) := (lawRun c rs (rs.headD []).length).1.take (lawRun c rs (rs.headD []).length).2
/-- the rows stay rows, as many as they were -/
structure LOk (c : Int) (n m : Nat) (st : LState) : Prop where
  len : st.1.length = m
  row : ∀ r ∈ st.1, RowOk c n r
  le : st.2 ≤ m
theorem spots_mem {st : LState} {j a : Nat} (h : a ∈ spotsOf st j) : st.2 ≤ a ∧ a < st.1.length ∧ (st.1.getD a []).getD j 0 ≠ 0 := by
  obtain ⟨k, hk, rfl⟩ := List.mem_map.mp h
  obtain ⟨h1, h2⟩ := List.mem_filter.mp hk
  have h3 := List.mem_range.mp h1
  exact ⟨by omega, by omega, of_decide_eq_true h2⟩
theorem getD_mem {α : Type} {l : List α} {i : Nat} {d : α} (h : i < l.length) : l.getD i d ∈ l := by
  rw [List.getD_eq_getElem?_getD, List.getElem?_eq_getElem h]
  exact List.getElem_mem h
theorem leadRow_ok {c : Int} {n m : Nat} {st : LState} {j a : Nat} (hc : Clock c) (h : LOk c n m st) (ha : a < m) : RowOk c n (leadRow c st j a) := times_ok hc.pos (h.row _ (getD_mem (by rw [h.len]; exact ha))).1
theorem restRows_ok {c : Int} {n m : Nat} {st : LState} {j a : Nat} (hc : Clock c) (h : LOk c n m st) (ha : a < m) : (∀ r ∈ restRows c st j a, RowOk c n r) ∧ (restRows c st j a).length = m - 1 := by
  refine ⟨fun r hr => ?_, ?_⟩
  · obtain ⟨q, hq, rfl⟩ := List.mem_map.mp hr
    exact clr_ok hc.pos (h.row q (List.mem_of_mem_eraseIdx hq)) (leadRow_ok hc h ha).1
  · unfold restRows
    rw [List.length_map, List.length_eraseIdx, if_pos (by rw [h.len]; exact ha), h.len]
theorem lawStep_ok {c : Int} {n m : Nat} {st : LState} {j : Nat} (hc : Clock c) (h : LOk c n m st) : LOk c n m (lawStep c st j) := by
  unfold lawStep
  split
  · exact h
  · rename_i a t e
    obtain ⟨a1, a2, a3⟩ := spots_mem (a := a) (by rw [e]; exact List.mem_cons_self)
    rw [h.len] at a2
    obtain ⟨r1, r2⟩ := restRows_ok (j := j) hc h a2
    refine ⟨?_, fun r hr => ?_, by show st.2 + 1 ≤ m; omega⟩
    · show ((restRows c st j a).take st.2 ++ [leadRow c st j a] ++ (restRows c st j a).drop st.2).length = m
      rw [List.length_append, List.length_append, List.length_take, List.length_drop, r2]
      show min st.2 (m - 1) + 1 + (m - 1 - st.2) = m
      omega
    · rcases List.mem_append.mp hr with hr | hr
      · rcases List.mem_append.mp hr with hr | hr
        · exact r1 r (List.mem_of_mem_take hr)
        · have e : r = leadRow c st j a := by simpa using hr
          rw [e]
          exact leadRow_ok hc h a2
      · exact r1 r (List.mem_of_mem_drop hr)
theorem lawRun_succ (c : Int) (rs : List (List Int)) (k : Nat) : lawRun c rs (k + 1) = lawStep c (lawRun c rs k) k := by
  unfold lawRun
  rw [List.range_succ, List.foldl_append]
  rfl
theorem lawRun_ok {c : Int} {n : Nat} {rs : List (List Int)} (hc : Clock c) (h : ∀ r ∈ rs, RowOk c n r) : ∀ k, LOk c n rs.length (lawRun c rs k)
  | 0 => ⟨rfl, h, Nat.zero_le _⟩
  | k + 1 => by
    rw [lawRun_succ]
    exact lawStep_ok hc (lawRun_ok hc h k)
theorem lawLeast_ok {c : Int} {n : Nat} {rs : List (List Int)} (hc : Clock c) (h : ∀ r ∈ rs, RowOk c n r) : ∀ r ∈ lawLeast c rs, RowOk c n r := fun r hr => (lawRun_ok hc h _).row r (List.mem_of_mem_take hr)
/-- the first that passes -/
theorem filter_first {p : Nat → Bool} {n i : Nat} (hi : i < n) (hp : p i = true) (hn : ∀ j, j < i → p j = false) : ((List.range n).filter p)[0]? = some i := by
  have e : List.range n = List.range i ++ (i :: (List.range (n - i - 1)).map (· + (i + 1))) := by
    apply List.ext_getElem?
    intro k
    by_cases h1 : k < n
    · rw [List.getElem?_range h1]
      by_cases h2 : k < i
      · rw [List.getElem?_append_left (by simpa using h2), List.getElem?_range h2]
      · rw [List.getElem?_append_right (by simpa using h2), List.length_range]
        by_cases h3 : k = i
        · rw [h3, Nat.sub_self]
          rfl
        · obtain ⟨d, rfl⟩ : ∃ d, k = i + (d + 1) := ⟨k - i - 1, by omega⟩
          rw [Nat.add_sub_cancel_left, List.getElem?_cons_succ, List.getElem?_map, List.getElem?_range (by omega)]
          show some (i + (d + 1)) = some (d + (i + 1))
          congr 1
          omega
    · rw [List.getElem?_eq_none (by simpa using h1), List.getElem?_eq_none]
      rw [List.length_append, List.length_cons, List.length_map, List.length_range, List.length_range]
      omega
  have e0 : (List.range i).filter p = [] := List.filter_eq_nil_iff.mpr fun j hj => by
    rw [hn j (List.mem_range.mp hj)]
    decide
  rw [e, List.filter_append, e0, List.nil_append, List.filter_cons, if_pos hp]
  rfl
end K61

set_option Elab.async false
set_option linter.all false
set_option maxRecDepth 100000
set_option maxHeartbeats 4000000
/-! Plain Lean: what rows span, by a clock; one reduced form for each span. -/
namespace K61
open PySem
def Z0 (c : Int) (n : Nat) (v : Nat → Int) : Prop := ∀ j, j < n → c ∣ v j
/-- v is spanned by the rows S, on n places, by the clock c -/
inductive InSp (c : Int) (n : Nat) (S : List (List Int)) : (Nat → Int) → Prop
  | zero {v : Nat → Int} (h : Z0 c n v) : InSp c n S v
  | add {u v : Nat → Int} (k : Int) (r : List Int) (h : InSp c n S u) (hr : r ∈ S) (e : Z0 c n fun j => v j - (u j + k * r.getD j 0)) : InSp c n S v
theorem dvd_of_eq {c a b : Int} (h : c ∣ a) (e : b = a) : c ∣ b := by rw [e]; exact h
theorem dvd_mod (c a : Int) : c ∣ a - a % c := ⟨a / c, by rw [Int.emod_def]; omega⟩
theorem dvd_mod' (c a : Int) : c ∣ a % c - a := ⟨-(a / c), by rw [Int.emod_def]; grind⟩
theorem InSp.congr {c : Int} {n : Nat} {S : List (List Int)} {u v : Nat → Int} (h : InSp c n S u) (e : Z0 c n fun j => v j - u j) : InSp c n S v := by
  cases h with
  | zero h =>
    refine .zero fun j hj => ?_
    obtain ⟨x, hx⟩ := e j hj
    obtain ⟨y, hy⟩ := h j hj
    exact ⟨x + y, by grind⟩
  | add k r h hr e2 =>
    refine .add k r h hr fun j hj => ?_
    obtain ⟨x, hx⟩ := e j hj
    obtain ⟨y, hy⟩ := e2 j hj
    exact ⟨x + y, by grind⟩
theorem InSp.lin {c : Int} {n : Nat} {S : List (List Int)} {u v : Nat → Int} (k : Int) (hu : InSp c n S u) (hv : InSp c n S v) : InSp c n S (fun j => u j + k * v j) := by
  induction hv with
  | zero h =>
    refine hu.congr fun j hj => ?_
    obtain ⟨x, hx⟩ := h j hj
    exact ⟨k * x, by grind⟩
  | add m r h hr e ih =>
    refine .add (k * m) r ih hr fun j hj => ?_
    obtain ⟨x, hx⟩ := e j hj
    exact ⟨k * x, by grind⟩
theorem InSp.mem {c : Int} {n : Nat} {S : List (List Int)} {r : List Int} (h : r ∈ S) : InSp c n S (fun j => r.getD j 0) :=
  .add 1 r (.zero (v := fun _ => 0) fun _ _ => ⟨0, by simp⟩) h fun j _ => ⟨0, by grind⟩
/-- each row of A is spanned by B -/
def Sub (c : Int) (n : Nat) (A B : List (List Int)) : Prop := ∀ r ∈ A, InSp c n B (fun j => r.getD j 0)
theorem InSp.trans {c : Int} {n : Nat} {A B : List (List Int)} {v : Nat → Int} (s : Sub c n A B) (h : InSp c n A v) : InSp c n B v := by
  induction h with
  | zero h => exact .zero h
  | add k r h hr e ih => exact (InSp.lin k ih (s r hr)).congr e
theorem Sub.refl {c : Int} {n : Nat} {A : List (List Int)} : Sub c n A A := fun _ h => .mem h
theorem Sub.trans {c : Int} {n : Nat} {A B C : List (List Int)} (h1 : Sub c n A B) (h2 : Sub c n B C) : Sub c n A C := fun r hr => (h1 r hr).trans h2
theorem Sub.of {c : Int} {n : Nat} {A B : List (List Int)} (h : ∀ r ∈ A, r ∈ B) : Sub c n A B := fun r hr => .mem (h r hr)
theorem Sub.app {c : Int} {n : Nat} {A B C : List (List Int)} (h1 : Sub c n A C) (h2 : Sub c n B C) : Sub c n (A ++ B) C := fun r hr => (List.mem_append.mp hr).elim (h1 r) (h2 r)
/-! ### a reduced form's rows, and what they span -/
def rowsF (F : Form) : List (List Int) := F.map (·.2)
def comb (G : Form) (v : Nat → Int) (j : Nat) : Int := (G.map fun q => v q.1 * q.2.getD j 0).sum
theorem comb_lin (k : Int) (u v : Nat → Int) (j : Nat) : ∀ G : Form, comb G (fun i => u i + k * v i) j = comb G u j + k * comb G v j
  | [] => by simp [comb]
  | q :: G => by
    have ih := comb_lin k u v j G
    unfold comb at ih ⊢
    simp only [List.map_cons, List.sum_cons]
    rw [ih]
    grind
theorem comb_zero {c : Int} {n : Nat} {v : Nat → Int} (h : Z0 c n v) (j : Nat) : ∀ G : Form, (∀ q ∈ G, q.1 < n) → c ∣ comb G v j
  | [], _ => ⟨0, by simp [comb]⟩
  | q :: G, hG => by
    obtain ⟨x, hx⟩ := comb_zero h j G fun p hp => hG p (List.mem_cons_of_mem _ hp)
    obtain ⟨y, hy⟩ := h q.1 (hG q List.mem_cons_self)
    refine ⟨y * q.2.getD j 0 + x, ?_⟩
    unfold comb at hx ⊢
    simp only [List.map_cons, List.sum_cons]
    rw [hx, hy]
    grind
theorem comb_none {v : Nat → Int} {j : Nat} : ∀ (G : Form), (∀ q ∈ G, v q.1 * q.2.getD j 0 = 0) → comb G v j = 0
  | [], _ => rfl
  | q :: G, h => by
    have ih := comb_none G fun p hp => h p (List.mem_cons_of_mem _ hp)
    unfold comb at ih ⊢
    simp only [List.map_cons, List.sum_cons]
    rw [ih, h q List.mem_cons_self]
    rfl
theorem comb_one {v : Nat → Int} {j : Nat} {p : Nat × List Int} (h1 : v p.1 = 1) : ∀ (G : Form), p ∈ G → (G.map (·.1)).Pairwise (· < ·) → (∀ q ∈ G, q.1 ≠ p.1 → v q.1 * q.2.getD j 0 = 0) → comb G v j = p.2.getD j 0
  | [], h, _, _ => by cases h
  | q :: G, h, hs, hz => by
    rw [List.map_cons, List.pairwise_cons] at hs
    rcases List.mem_cons.mp h with e | hp
    · subst e
      have ih := comb_none (v := v) (j := j) G fun q hq => hz q (List.mem_cons_of_mem _ hq) (fun z => by
        have := hs.1 q.1 (List.mem_map.mpr ⟨q, hq, rfl⟩)
        omega)
      unfold comb at ih ⊢
      simp only [List.map_cons, List.sum_cons]
      rw [ih, h1]
      simp
    · have ne : q.1 ≠ p.1 := fun z => by
        have := hs.1 p.1 (List.mem_map.mpr ⟨p, hp, rfl⟩)
        omega
      have ih := comb_one h1 G hp hs.2 fun q hq => hz q (List.mem_cons_of_mem _ hq)
      unfold comb at ih ⊢
      simp only [List.map_cons, List.sum_cons]
      rw [ih, hz q List.mem_cons_self ne]
      simp
theorem comb_row {c : Int} {n : Nat} {G : Form} (h : Red c n G) {p : Nat × List Int} (hp : p ∈ G) (j : Nat) : comb G (fun i => p.2.getD i 0) j = p.2.getD j 0 := by
  refine comb_one (by rw [h.red p hp p hp, if_pos rfl]) G hp h.srt fun q hq ne => ?_
  rw [h.red q hq p hp, if_neg ne, Int.zero_mul]
theorem span_comb {c : Int} {n : Nat} {G : Form} (h : Red c n G) {v : Nat → Int} (hv : InSp c n (rowsF G) v) : Z0 c n fun j => v j - comb G v j := by
  induction hv with
  | @zero v hz =>
    intro j hj
    obtain ⟨x, hx⟩ := hz j hj
    obtain ⟨y, hy⟩ := comb_zero hz j G h.lt
    exact ⟨x - y, by grind⟩
  | @add u v k r hu hr e ih =>
    intro j hj
    obtain ⟨p, hp, rfl⟩ := List.mem_map.mp hr
    obtain ⟨x, hx⟩ := e j hj
    obtain ⟨y, hy⟩ := ih j hj
    obtain ⟨z, hz⟩ := comb_zero e j G h.lt
    have e1 := comb_lin (-1) v (fun i => u i + k * p.2.getD i 0) j G
    have e2 := comb_lin k u (fun i => p.2.getD i 0) j G
    rw [comb_row h hp] at e2
    have e3 : (fun i => v i + -1 * (u i + k * p.2.getD i 0)) = fun i => v i - (u i + k * p.2.getD i 0) := by
      funext i
      omega
    rw [e3, hz, e2] at e1
    exact ⟨x + y - z, by grind⟩
theorem low_dvd {c x : Int} (h0 : 0 ≤ x) (h1 : x < c) (h : c ∣ x) : x = 0 := by
  have := Int.emod_eq_zero_of_dvd h
  rw [emod_low h0 h1] at this
  exact this
theorem low_eq {c x y : Int} (hx : 0 ≤ x ∧ x < c) (hy : 0 ≤ y ∧ y < c) (h : c ∣ x - y) : x = y := by
  have e : x % c = y % c := Int.emod_eq_emod_iff_emod_sub_eq_zero.mpr (Int.emod_eq_zero_of_dvd h)
  rwa [emod_low hx.1 hx.2, emod_low hy.1 hy.2] at e
theorem row_eq {c : Int} {n : Nat} {r t : List Int} (hc : 0 < c) (hr : RowOk c n r) (ht : RowOk c n t) (h : ∀ j, j < n → c ∣ r.getD j 0 - t.getD j 0) : r = t := by
  apply List.ext_getElem?
  intro j
  by_cases hj : j < n
  · have z := low_eq (getD_row hc hr j) (getD_row hc ht j) (h j hj)
    rw [List.getD_eq_getElem?_getD, List.getD_eq_getElem?_getD, List.getElem?_eq_getElem (by rw [hr.1]; exact hj), List.getElem?_eq_getElem (by rw [ht.1]; exact hj)] at z
    rw [List.getElem?_eq_getElem (by rw [hr.1]; exact hj), List.getElem?_eq_getElem (by rw [ht.1]; exact hj)]
    exact congrArg some z
  · rw [List.getElem?_eq_none (by rw [hr.1]; omega), List.getElem?_eq_none (by rw [ht.1]; omega)]
/-- each lead of F is one of G -/
theorem leads_sub {c : Int} {n : Nat} {F G : Form} (hc : Clock c) (hF : Red c n F) (hG : Red c n G) (s : Sub c n (rowsF F) (rowsF G)) : ∀ p ∈ F, ∃ q ∈ G, q.1 = p.1 := fun p hp => by
  have c2 := hc.two
  by_cases h : ∃ q ∈ G, q.1 = p.1
  · exact h
  · have z := span_comb hG (s p.2 (List.mem_map.mpr ⟨p, hp, rfl⟩)) p.1 (hF.lt p hp)
    have e0 : comb G (fun i => p.2.getD i 0) p.1 = 0 := comb_none G fun q hq => by
      by_cases l : q.1 < p.1
      · rw [hF.low p hp q.1 l, Int.zero_mul]
      · have ne : q.1 ≠ p.1 := fun z => h ⟨q, hq, z⟩
        rw [hG.low q hq p.1 (by omega), Int.mul_zero]
    have e1 : p.2.getD p.1 0 = 1 := by rw [hF.red p hp p hp, if_pos rfl]
    have z' : c ∣ p.2.getD p.1 0 - comb G (fun i => p.2.getD i 0) p.1 := z
    rw [e0, e1] at z'
    have := low_dvd (x := 1 - 0) (by omega) (by omega) z'
    omega
theorem pairs_sub {c : Int} {n : Nat} {F G : Form} (hc : Clock c) (hF : Red c n F) (hG : Red c n G) (s : Sub c n (rowsF F) (rowsF G)) (s' : Sub c n (rowsF G) (rowsF F)) : ∀ p ∈ F, p ∈ G := fun p hp => by
  obtain ⟨q, hq, e⟩ := leads_sub hc hF hG s p hp
  have z := span_comb hG (s p.2 (List.mem_map.mpr ⟨p, hp, rfl⟩))
  have er : p.2 = q.2 := by
    refine row_eq hc.pos (hF.row p hp) (hG.row q hq) fun j hj => ?_
    have z' : c ∣ p.2.getD j 0 - comb G (fun i => p.2.getD i 0) j := z j hj
    rw [comb_one (p := q) (by rw [e, hF.red p hp p hp, if_pos rfl]) G hq hG.srt fun x hx ne => ?_] at z'
    · exact z'
    · obtain ⟨y, hy, e2⟩ := leads_sub hc hG hF s' x hx
      rw [← e2, hF.red y hy p hp, if_neg (by omega), Int.zero_mul]
  have ep : p = q := Prod.ext e.symm er
  rw [ep]
  exact hq
theorem srt_ext : ∀ {A B : Form}, (∀ p ∈ A, p ∈ B) → (∀ p ∈ B, p ∈ A) → (A.map (·.1)).Pairwise (· < ·) → (B.map (·.1)).Pairwise (· < ·) → A = B
  | [], [], _, _, _, _ => rfl
  | [], b :: _, _, h, _, _ => absurd (h b List.mem_cons_self) (by simp)
  | a :: _, [], h, _, _, _ => absurd (h a List.mem_cons_self) (by simp)
  | a :: A, b :: B, h1, h2, hA, hB => by
    rw [List.map_cons, List.pairwise_cons] at hA hB
    have e : a = b := by
      rcases List.mem_cons.mp (h1 a List.mem_cons_self) with e | hb
      · exact e
      · rcases List.mem_cons.mp (h2 b List.mem_cons_self) with e | ha
        · exact e.symm
        · have z1 := hA.1 b.1 (List.mem_map.mpr ⟨b, ha, rfl⟩)
          have z2 := hB.1 a.1 (List.mem_map.mpr ⟨a, hb, rfl⟩)
          omega
    subst e
    refine congrArg (a :: ·) (srt_ext (fun p hp => ?_) (fun p hp => ?_) hA.2 hB.2)
    · rcases List.mem_cons.mp (h1 p (List.mem_cons_of_mem _ hp)) with e | h
      · have := hA.1 p.1 (List.mem_map.mpr ⟨p, hp, rfl⟩)
        rw [e] at this
        omega
      · exact h
    · rcases List.mem_cons.mp (h2 p (List.mem_cons_of_mem _ hp)) with e | h
      · have := hB.1 p.1 (List.mem_map.mpr ⟨p, hp, rfl⟩)
        rw [e] at this
        omega
      · exact h
theorem red_uniq {c : Int} {n : Nat} {F G : Form} (hc : Clock c) (hF : Red c n F) (hG : Red c n G) (s : Sub c n (rowsF F) (rowsF G)) (s' : Sub c n (rowsF G) (rowsF F)) : F = G :=
  srt_ext (pairs_sub hc hF hG s s') (pairs_sub hc hG hF s' s) hF.srt hG.srt
/-! ### clearing keeps the span -/
theorem clr_cong {c : Int} {n : Nat} {r b : List Int} (hc : 0 < c) (hr : RowOk c n r) (hb : b.length = n) (i : Nat) : ∀ j, c ∣ (clr c r b i).getD j 0 - (r.getD j 0 + -(r.getD i 0) * b.getD j 0) := fun j => by
  rw [clr_get hc hr hb]
  refine dvd_of_eq (dvd_mod' c (r.getD j 0 - r.getD i 0 * b.getD j 0)) ?_
  grind
theorem clr_in {c : Int} {n : Nat} {S : List (List Int)} {r b : List Int} (hc : 0 < c) (hr : RowOk c n r) (hb : b.length = n) (i : Nat) (h1 : InSp c n S fun j => r.getD j 0) (h2 : InSp c n S fun j => b.getD j 0) : InSp c n S fun j => (clr c r b i).getD j 0 :=
  (InSp.lin _ h1 h2).congr fun j _ => clr_cong hc hr hb i j
theorem clr_out {c : Int} {n : Nat} {S : List (List Int)} {r b : List Int} (hc : 0 < c) (hr : RowOk c n r) (hb : b.length = n) (i : Nat) (h1 : InSp c n S fun j => (clr c r b i).getD j 0) (h2 : InSp c n S fun j => b.getD j 0) : InSp c n S fun j => r.getD j 0 :=
  (InSp.lin (r.getD i 0) h1 h2).congr fun j _ => by
    obtain ⟨x, hx⟩ := clr_cong hc hr hb i j
    exact ⟨-x, by grind⟩
theorem clrBy_in {c : Int} {n : Nat} {S : List (List Int)} (hc : 0 < c) : ∀ {F : Form} {r : List Int}, RowOk c n r → (∀ p ∈ F, RowOk c n p.2) → (∀ p ∈ F, InSp c n S fun j => p.2.getD j 0) → ((InSp c n S fun j => r.getD j 0) ↔ InSp c n S fun j => (clrBy c r F).getD j 0)
  | [], r, _, _, _ => Iff.rfl
  | p :: F, r, hr, hF, hS => by
    have ok := (hF p List.mem_cons_self).1
    have hp := hS p List.mem_cons_self
    refine Iff.trans ⟨fun h => clr_in hc hr ok p.1 h hp, fun h => clr_out hc hr ok p.1 h hp⟩ ?_
    exact clrBy_in hc (F := F) (clr_ok hc hr ok) (fun q hq => hF q (List.mem_cons_of_mem _ hq)) fun q hq => hS q (List.mem_cons_of_mem _ hq)
theorem times_in {c k : Int} {n : Nat} {S : List (List Int)} {r : List Int} (h : InSp c n S fun j => r.getD j 0) : InSp c n S fun j => (timesOf c k r).getD j 0 :=
  (InSp.lin k (InSp.zero (v := fun _ => 0) fun _ _ => ⟨0, by simp⟩) h).congr fun j _ => by
    show c ∣ (timesOf c k r).getD j 0 - (0 + k * r.getD j 0)
    rw [times_get]
    exact dvd_of_eq (dvd_mod' c (k * r.getD j 0)) (by grind)
theorem times_out {c k x : Int} {n : Nat} {S : List (List Int)} {r : List Int} (hx : x * k % c = 1) (h : InSp c n S fun j => (timesOf c k r).getD j 0) : InSp c n S fun j => r.getD j 0 :=
  (InSp.lin x (InSp.zero (v := fun _ => 0) fun _ _ => ⟨0, by simp⟩) h).congr fun j _ => by
    show c ∣ r.getD j 0 - (0 + x * (timesOf c k r).getD j 0)
    rw [times_get]
    obtain ⟨y, hy⟩ := dvd_mod c (k * r.getD j 0)
    obtain ⟨z, hz⟩ := dvd_mod c (x * k)
    rw [hx] at hz
    exact ⟨x * y - z * r.getD j 0, by grind⟩
theorem withRow_span {c : Int} {n : Nat} {F : Form} {r : List Int} (hc : Clock c) (h : Red c n F) (hr : RowOk c n r) : Sub c n (rowsF (withRow c F r)) (rowsF F ++ [r]) ∧ Sub c n (rowsF F ++ [r]) (rowsF (withRow c F r)) := by
  have c0 := hc.pos
  have hL : RowOk c n (clrBy c r F) := clrBy_ok c0 hr fun p hp => (h.row p hp).1
  have inF : ∀ {S : List (List Int)}, (∀ p ∈ F, InSp c n S fun j => p.2.getD j 0) → ((InSp c n S fun j => r.getD j 0) ↔ InSp c n S fun j => (clrBy c r F).getD j 0) := fun hS => clrBy_in c0 hr h.row hS
  have base : ∀ p ∈ F, InSp c n (rowsF F ++ [r]) fun j => p.2.getD j 0 := fun p hp => .mem (List.mem_append_left _ (List.mem_map.mpr ⟨p, hp, rfl⟩))
  have baser : InSp c n (rowsF F ++ [r]) fun j => r.getD j 0 := .mem (List.mem_append_right _ List.mem_cons_self)
  have bl := (inF base).mp baser
  cases e : leadOf (clrBy c r F) with
  | none =>
    rw [withRow_no F r e]
    refine ⟨Sub.of fun x hx => List.mem_append_left _ hx, Sub.app Sub.refl fun x hx => ?_⟩
    have ex : x = r := by simpa using hx
    subst ex
    refine (inF fun p hp => .mem (List.mem_map.mpr ⟨p, hp, rfl⟩)).mpr (.zero fun j hj => ?_)
    have z0 := leadOf_none e
    have : (clrBy c x F).getD j 0 = 0 := z0 _ (by
      rw [List.getD_eq_getElem?_getD, List.getElem?_eq_getElem (by rw [hL.1]; exact hj)]
      exact List.getElem_mem _)
    rw [this]
    exact ⟨0, by simp⟩
  | some l =>
    rw [withRow_eq F r e]
    generalize clrBy c r F = L at hL e bl inF ⊢
    obtain ⟨l1, l2, l3⟩ := leadOf_some e
    obtain ⟨x0, x1⟩ := getD_row c0 hL l
    obtain ⟨i0, i1, i2, i3⟩ := isInv_of hc x0 x1 l2
    generalize invOf c (L.getD l 0) = k at i0 i1 i2 i3 ⊢
    have hN : RowOk c n (timesOf c k L) := times_ok c0 hL.1
    have bN : InSp c n (rowsF F ++ [r]) fun j => (timesOf c k L).getD j 0 := times_in bl
    have out : ∀ {S : List (List Int)}, (InSp c n S fun j => (timesOf c k L).getD j 0) → InSp c n S fun j => L.getD j 0 := fun hS => times_out i2 hS
    generalize timesOf c k L = N at hN bN out ⊢
    have mem : ∀ x, x ∈ rowsF (insF (l, N) (F.map fun p => (p.1, clr c p.2 N l))) ↔ x = N ∨ ∃ q ∈ F, x = clr c q.2 N l := fun x => by
      have z := ((insF_perm (l, N) (F.map fun p => (p.1, clr c p.2 N l))).map (·.2)).mem_iff (a := x)
      refine z.trans ?_
      rw [List.map_append, List.mem_append, List.map_map]
      constructor
      · rintro (h | h)
        · obtain ⟨q, hq, rfl⟩ := List.mem_map.mp h
          exact .inr ⟨q, hq, rfl⟩
        · exact .inl (by simpa using h)
      · rintro (h | ⟨q, hq, rfl⟩)
        · exact .inr (by simp [h])
        · exact .inl (List.mem_map.mpr ⟨q, hq, rfl⟩)
    refine ⟨fun x hx => ?_, ?_⟩
    · rcases (mem x).mp hx with rfl | ⟨q, hq, rfl⟩
      · exact bN
      · exact clr_in c0 (h.row q hq) hN.1 l (base q hq) bN
    · have nN : InSp c n (rowsF (insF (l, N) (F.map fun p => (p.1, clr c p.2 N l)))) fun j => N.getD j 0 := .mem ((mem N).mpr (.inl rfl))
      have nF : ∀ p ∈ F, InSp c n (rowsF (insF (l, N) (F.map fun p => (p.1, clr c p.2 N l)))) fun j => p.2.getD j 0 := fun p hp => clr_out c0 (h.row p hp) hN.1 l (.mem ((mem _).mpr (.inr ⟨p, hp, rfl⟩))) nN
      refine Sub.app (fun x hx => ?_) fun x hx => ?_
      · obtain ⟨p, hp, rfl⟩ := List.mem_map.mp hx
        exact nF p hp
      · have ex : x = r := by simpa using hx
        subst ex
        exact (inF nF).mpr (out nN)
theorem foldRow_span {c : Int} {n : Nat} (hc : Clock c) : ∀ {rows : List (List Int)} {F : Form}, Red c n F → (∀ r ∈ rows, RowOk c n r) → Sub c n (rowsF (rows.foldl (withRow c) F)) (rowsF F ++ rows) ∧ Sub c n (rowsF F ++ rows) (rowsF (rows.foldl (withRow c) F))
  | [], F, _, _ => by
    rw [List.append_nil]
    exact ⟨Sub.refl, Sub.refl⟩
  | r :: rows, F, h, hr => by
    obtain ⟨a1, a2⟩ := withRow_span hc h (hr r List.mem_cons_self)
    obtain ⟨b1, b2⟩ := foldRow_span hc (rows := rows) (withRow_red hc h (hr r List.mem_cons_self)) fun x hx => hr x (List.mem_cons_of_mem _ hx)
    rw [List.foldl_cons]
    have e : rowsF F ++ r :: rows = (rowsF F ++ [r]) ++ rows := by simp
    rw [e]
    refine ⟨b1.trans (Sub.app (a1.trans (Sub.of fun x hx => List.mem_append_left _ hx)) (Sub.of fun x hx => List.mem_append_right _ hx)), Sub.app (a2.trans ?_) ?_⟩
    · exact Sub.trans (Sub.of fun x hx => List.mem_append_left _ hx) b2
    · exact Sub.trans (Sub.of fun x hx => List.mem_append_right _ hx) b2
theorem least_span {c : Int} {n : Nat} {rows : List (List Int)} (hc : Clock c) (h : ∀ r ∈ rows, RowOk c n r) : Sub c n (leastIn c rows) rows ∧ Sub c n rows (leastIn c rows) := foldRow_span hc (F := []) Red.nil h
theorem least_eq {c : Int} {n : Nat} {A B : List (List Int)} (hc : Clock c) (hA : ∀ r ∈ A, RowOk c n r) (hB : ∀ r ∈ B, RowOk c n r) (s : Sub c n A B) (s' : Sub c n B A) : leastIn c A = leastIn c B := by
  obtain ⟨a1, a2⟩ := least_span hc hA
  obtain ⟨b1, b2⟩ := least_span hc hB
  have e := red_uniq hc (formOf_red hc hA) (formOf_red hc hB) ((a1.trans s).trans b2) ((b1.trans s').trans a2)
  unfold leastIn
  rw [e]
end K61

set_option Elab.async false
set_option linter.all false
set_option maxRecDepth 100000
set_option maxHeartbeats 4000000
/-! Plain Lean: the law's own clearing ends in the same reduced form. -/
namespace K61
open PySem
theorem take_erase {α : Type} : ∀ (l : List α) (a d : Nat), d ≤ a → (l.eraseIdx a).take d = l.take d
  | [], _, _, _ => by simp
  | _ :: _, _, 0, _ => by simp
  | x :: l, 0, d + 1, h => by omega
  | x :: l, a + 1, d + 1, h => by
    rw [List.eraseIdx_cons_succ, List.take_succ_cons, List.take_succ_cons, take_erase l a d (by omega)]
theorem drop_erase_mem {α : Type} {r : α} : ∀ (l : List α) (a d : Nat), d ≤ a → r ∈ (l.eraseIdx a).drop d → r ∈ l.drop d
  | [], _, _, _, h => by simp at h
  | x :: l, a, 0, _, h => by
    rw [List.drop_zero] at h ⊢
    exact List.mem_of_mem_eraseIdx h
  | x :: l, 0, d + 1, h, _ => by omega
  | x :: l, a + 1, d + 1, h, hr => by
    rw [List.eraseIdx_cons_succ, List.drop_succ_cons] at hr
    rw [List.drop_succ_cons]
    exact drop_erase_mem l a d (by omega) hr
theorem erase_or : ∀ (l : List (List Int)) (a : Nat) (r : List Int), r ∈ l → r = l.getD a [] ∨ r ∈ l.eraseIdx a
  | [], _, _, h => by cases h
  | x :: l, 0, r, h => by
    rcases List.mem_cons.mp h with e | h
    · exact .inl e
    · exact .inr h
  | x :: l, a + 1, r, h => by
    rw [List.eraseIdx_cons_succ]
    rcases List.mem_cons.mp h with e | h
    · exact .inr (by rw [e]; exact List.mem_cons_self)
    · rcases erase_or l a r h with e | h
      · left
        rw [e]
        simp [List.getD_eq_getElem?_getD]
      · exact .inr (List.mem_cons_of_mem _ h)
theorem mem_drop_getD {l : List (List Int)} {d a : Nat} (h1 : d ≤ a) (h2 : a < l.length) : l.getD a [] ∈ l.drop d := by
  have e : (l.drop d)[a - d]? = l[a]? := by
    rw [List.getElem?_drop]
    congr 1
    omega
  rw [List.getD_eq_getElem?_getD, List.getElem?_eq_getElem h2]
  rw [List.getElem?_eq_getElem h2] at e
  exact List.mem_of_getElem? e
structure LInv (c : Int) (n : Nat) (rs : List (List Int)) (k : Nat) (st : LState) (F : Form) : Prop where
  ok : LOk c n rs.length st
  red : Red c n F
  rows : rowsF F = st.1.take st.2
  lt : ∀ p ∈ F, p.1 < k
  zero : ∀ r ∈ st.1.drop st.2, ∀ j, j < k → r.getD j 0 = 0
  s1 : Sub c n st.1 rs
  s2 : Sub c n rs st.1
theorem lawStep_inv {c : Int} {n : Nat} {rs : List (List Int)} {k : Nat} {st : LState} {F : Form} (hc : Clock c) (hk : k < n) (h : LInv c n rs k st F) : ∃ G, LInv c n rs (k + 1) (lawStep c st k) G := by
  have hok := lawStep_ok (j := k) hc h.ok
  have c0 := hc.pos
  have c2 := hc.two
  unfold lawStep at hok ⊢
  cases e : spotsOf st k with
  | nil =>
    rw [e] at hok
    refine ⟨F, h.ok, h.red, h.rows, fun p hp => Nat.lt_succ_of_lt (h.lt p hp), fun r hr j hj => ?_, h.s1, h.s2⟩
    by_cases hjk : j < k
    · exact h.zero r hr j hjk
    · have ej : j = k := by omega
      subst ej
      obtain ⟨i, hi, ei⟩ := List.getElem_of_mem hr
      have hi' : i < st.1.length - st.2 := by rw [List.length_drop] at hi; exact hi
      have z := List.filter_eq_nil_iff.mp (List.map_eq_nil_iff.mp e) i (List.mem_range.mpr hi')
      have z2 : (st.1.getD (st.2 + i) []).getD j 0 = 0 := by
        apply Classical.byContradiction
        intro ne
        exact z (decide_eq_true ne)
      have e2 : st.1.getD (st.2 + i) [] = r := by
        rw [List.getElem_drop] at ei
        rw [List.getD_eq_getElem?_getD, List.getElem?_eq_getElem (by omega)]
        exact ei
      rw [e2] at z2
      exact z2
  | cons a t =>
    rw [e] at hok
    dsimp only at hok ⊢
    obtain ⟨a1, a2, a3⟩ := spots_mem (a := a) (by rw [e]; exact List.mem_cons_self)
    have a2' := a2
    rw [h.ok.len] at a2'
    have hD := mem_drop_getD a1 a2
    have okD : RowOk c n (st.1.getD a []) := h.ok.row _ (List.mem_of_mem_drop hD)
    obtain ⟨x0, x1⟩ := getD_row c0 okD k
    obtain ⟨i0, i1, i2, i3⟩ := isInv_of hc x0 x1 a3
    have okL : RowOk c n (leadRow c st k a) := times_ok c0 okD.1
    have lk : (leadRow c st k a).getD k 0 = 1 := by
      unfold leadRow
      rw [times_get, Int.mul_comm]
      exact i2
    have lz : ∀ j, j < k → (leadRow c st k a).getD j 0 = 0 := fun j hj => by
      unfold leadRow
      rw [times_get, h.zero _ hD j hj]
      simp
    have outL : ∀ {S : List (List Int)}, (InSp c n S fun j => (leadRow c st k a).getD j 0) → InSp c n S fun j => (st.1.getD a []).getD j 0 := fun hS => times_out i2 hS
    have inL : ∀ {S : List (List Int)}, (InSp c n S fun j => (st.1.getD a []).getD j 0) → InSp c n S fun j => (leadRow c st k a).getD j 0 := fun hS => times_in hS
    obtain ⟨r1, r2⟩ := restRows_ok (j := k) hc h.ok a2'
    have memX : ∀ x, x ∈ restRows c st k a ↔ ∃ y ∈ st.1.eraseIdx a, clr c y (leadRow c st k a) k = x := fun x => List.mem_map
    have takeX : (restRows c st k a).take st.2 = (rowsF F).map fun r => clr c r (leadRow c st k a) k := by
      unfold restRows
      rw [← List.map_take, take_erase _ _ _ a1, h.rows]
    have dropX : ∀ x ∈ (restRows c st k a).drop st.2, ∃ y ∈ st.1.drop st.2, clr c y (leadRow c st k a) k = x := fun x hx => by
      unfold restRows at hx
      rw [← List.map_drop] at hx
      obtain ⟨y, hy, ey⟩ := List.mem_map.mp hx
      exact ⟨y, drop_erase_mem _ _ _ a1 hy, ey⟩
    generalize restRows c st k a = X at *
    generalize leadRow c st k a = L at *
    have rowsOk : ∀ y ∈ st.1, RowOk c n y := h.ok.row
    have keep : ∀ y, RowOk c n y → ∀ j, L.getD j 0 = 0 → (clr c y L k).getD j 0 = y.getD j 0 := fun y hy j hj => by
      obtain ⟨y0, y1⟩ := getD_row c0 hy j
      rw [clr_get c0 hy okL.1, hj, Int.mul_zero, Int.sub_zero, emod_low y0 y1]
    have atk : ∀ y, RowOk c n y → (clr c y L k).getD k 0 = 0 := fun y hy => by
      rw [clr_get c0 hy okL.1, lk]
      simp
    have lenA : (X.take st.2 ++ [L]).length = st.2 + 1 := by
      rw [List.length_append, List.length_take, r2]
      show min st.2 (rs.length - 1) + 1 = _
      omega
    have newmem : ∀ x, x ∈ X.take st.2 ++ [L] ++ X.drop st.2 ↔ x = L ∨ x ∈ X := fun x => by
      have e2 : x ∈ X ↔ x ∈ X.take st.2 ∨ x ∈ X.drop st.2 := by
        rw [← List.mem_append, List.take_append_drop]
      rw [List.mem_append, List.mem_append, e2, List.mem_singleton]
      constructor
      · rintro ((h | h) | h)
        · exact .inr (.inl h)
        · exact .inl h
        · exact .inr (.inr h)
      · rintro (h | h | h)
        · exact .inl (.inr h)
        · exact .inl (.inl h)
        · exact .inr h
    have memG : ∀ p, p ∈ (F.map fun p => (p.1, clr c p.2 L k)) ++ [(k, L)] → p = (k, L) ∨ ∃ q ∈ F, p = (q.1, clr c q.2 L k) := fun p hp => by
      rcases List.mem_append.mp hp with z | z
      · obtain ⟨q, hq, rfl⟩ := List.mem_map.mp z
        exact .inr ⟨q, hq, rfl⟩
      · exact .inl (by simpa using z)
    refine ⟨(F.map fun p => (p.1, clr c p.2 L k)) ++ [(k, L)], hok, ?_, ?_, ?_, ?_, ?_, ?_⟩
    · refine ⟨fun p hp => ?_, fun p hp => ?_, ?_, fun p hp q hq => ?_, fun p hp j hj => ?_⟩
      · rcases memG p hp with rfl | ⟨q, hq, rfl⟩
        · exact okL
        · exact clr_ok c0 (h.red.row q hq) okL.1
      · rcases memG p hp with rfl | ⟨q, hq, rfl⟩
        · exact hk
        · exact h.red.lt q hq
      · rw [List.map_append, List.map_map]
        refine List.pairwise_append.mpr ⟨h.red.srt, List.pairwise_singleton _ _, fun x hx y hy => ?_⟩
        obtain ⟨q, hq, rfl⟩ := List.mem_map.mp hx
        have ey : y = k := by simpa using hy
        rw [ey]
        exact h.lt q hq
      · rcases memG p hp with rfl | ⟨p', hp', rfl⟩
        · rcases memG q hq with rfl | ⟨q', hq', rfl⟩
          · rw [if_pos rfl]
            exact lk
          · have := h.lt q' hq'
            rw [if_neg (show ¬ k = q'.1 by omega)]
            exact atk _ (h.red.row q' hq')
        · have pk := h.lt p' hp'
          rcases memG q hq with rfl | ⟨q', hq', rfl⟩
          · rw [if_neg (show ¬ p'.1 = k by omega)]
            exact lz _ pk
          · show (clr c q'.2 L k).getD p'.1 0 = if p'.1 = q'.1 then 1 else 0
            rw [keep _ (h.red.row q' hq') _ (lz _ pk)]
            exact h.red.red p' hp' q' hq'
      · rcases memG p hp with rfl | ⟨q, hq, rfl⟩
        · exact lz j hj
        · have hj' : j < q.1 := hj
          have := h.lt q hq
          show (clr c q.2 L k).getD j 0 = 0
          rw [keep _ (h.red.row q hq) _ (lz _ (by omega))]
          exact h.red.low q hq j hj'
    · show rowsF _ = (X.take st.2 ++ [L] ++ X.drop st.2).take (st.2 + 1)
      rw [List.take_left' lenA, takeX]
      unfold rowsF
      rw [List.map_append, List.map_map, List.map_map]
      rfl
    · intro p hp
      rcases memG p hp with rfl | ⟨q, hq, rfl⟩
      · exact Nat.lt_succ_self k
      · exact Nat.lt_succ_of_lt (h.lt q hq)
    · intro r hr j hj
      have hr' : r ∈ (X.take st.2 ++ [L] ++ X.drop st.2).drop (st.2 + 1) := hr
      rw [List.drop_left' lenA] at hr'
      obtain ⟨y, hy, rfl⟩ := dropX r hr'
      have oky := rowsOk y (List.mem_of_mem_drop hy)
      by_cases hjk : j < k
      · rw [keep y oky j (lz j hjk)]
        exact h.zero y hy j hjk
      · have ej : j = k := by omega
        rw [ej]
        exact atk y oky
    · intro x hx
      have base : Sub c n st.1 rs := h.s1
      have hL : InSp c n rs fun j => L.getD j 0 := inL (base _ (List.mem_of_mem_drop hD))
      rcases (newmem x).mp hx with rfl | hx
      · exact hL
      · obtain ⟨y, hy, rfl⟩ := (memX x).mp hx
        have ym := List.mem_of_mem_eraseIdx hy
        exact clr_in c0 (rowsOk y ym) okL.1 k (base y ym) hL
    · refine h.s2.trans fun y hy => ?_
      have hL : InSp c n (X.take st.2 ++ [L] ++ X.drop st.2) fun j => L.getD j 0 := .mem ((newmem L).mpr (.inl rfl))
      rcases erase_or st.1 a y hy with rfl | hy'
      · exact outL hL
      · exact clr_out c0 (rowsOk y hy) okL.1 k (.mem ((newmem _).mpr (.inr ((memX _).mpr ⟨y, hy', rfl⟩)))) hL
theorem lawRun_inv {c : Int} {n : Nat} {rs : List (List Int)} (hc : Clock c) (h : ∀ r ∈ rs, RowOk c n r) : ∀ k, k ≤ n → ∃ F, LInv c n rs k (lawRun c rs k) F
  | 0, _ => ⟨[], ⟨lawRun_ok hc h 0, Red.nil, rfl, fun _ h => absurd h (by simp), fun _ _ j hj => by omega, Sub.refl, Sub.refl⟩⟩
  | k + 1, hk => by
    obtain ⟨F, hF⟩ := lawRun_inv hc h k (by omega)
    rw [lawRun_succ]
    exact lawStep_inv hc (by omega) hF
theorem lawLeast_eq {c : Int} {n : Nat} {rs : List (List Int)} (hc : Clock c) (h : ∀ r ∈ rs, RowOk c n r) : lawLeast c rs = leastIn c rs := by
  cases rs with
  | nil => rfl
  | cons r0 rs =>
    have e : ((r0 :: rs).headD []).length = n := (h r0 List.mem_cons_self).1
    unfold lawLeast
    rw [e]
    obtain ⟨F, hF⟩ := lawRun_inv hc h n (Nat.le_refl _)
    obtain ⟨b1, b2⟩ := least_span hc h
    have z : Sub c n (lawRun c (r0 :: rs) n).1 (rowsF F) := fun x hx => by
      rw [← List.take_append_drop (lawRun c (r0 :: rs) n).2 (lawRun c (r0 :: rs) n).1] at hx
      rcases List.mem_append.mp hx with hx | hx
      · rw [← hF.rows] at hx
        exact .mem hx
      · exact .zero fun j hj => by
          rw [hF.zero x hx j hj]
          exact ⟨0, by simp⟩
    have z2 : Sub c n (rowsF F) (lawRun c (r0 :: rs) n).1 := by
      rw [hF.rows]
      exact Sub.of fun x hx => List.mem_of_mem_take hx
    have eF := red_uniq hc hF.red (formOf_red hc h) ((z2.trans hF.s1).trans b2) ((b1.trans hF.s2).trans z)
    rw [← hF.rows, eF]
    rfl
end K61

set_option Elab.async false
set_option linter.all false
set_option maxRecDepth 100000
set_option maxHeartbeats 4000000
/-! Plain Lean: the law's own fair rows are the program's. -/
namespace K61
open PySem
theorem withW_flat (ws : List Int) : withW ws = [0, 0] ++ (ws.map fun x => [x, 0]).flatten := by
  have main : ∀ (l f : List Int), l.foldl (fun f x => f ++ [x, 0]) f = f ++ (l.map fun x => [x, 0]).flatten := by
    intro l
    induction l with
    | nil => intro f; simp
    | cons y l ih =>
      intro f
      rw [List.foldl_cons, ih]
      simp
  exact main ws [0, 0]
def lawB (c : Int) (bs : List Int) : List Int := [0, 0] ++ ((List.range bs.length).map fun a => [0, (bs.take (a + 1)).sum % c]).flatten
theorem withB_last (c : Int) (bs : List Int) : ∀ k, k ≤ bs.length → withB c (bs.take k) = [0, 0] ++ ((List.range k).map fun a => [0, (bs.take (a + 1)).sum % c]).flatten ∧ (withB c (bs.take k)).getLastD 0 = (bs.take k).sum % c
  | 0, _ => by simp [withB]
  | k + 1, h => by
    obtain ⟨h1, h2⟩ := withB_last c bs k (by omega)
    have hk : k < bs.length := by omega
    have e : bs.take (k + 1) = bs.take k ++ [bs[k]] := by
      rw [List.take_add_one, List.getElem?_eq_getElem hk]
      rfl
    have e2 : withB c (bs.take (k + 1)) = withB c (bs.take k) ++ [0, (bs.take (k + 1)).sum % c] := by
      have z : withB c (bs.take (k + 1)) = withB c (bs.take k) ++ [0, ((withB c (bs.take k)).getLastD 0 + bs[k]) % c] := by
        rw [e]
        unfold withB
        rw [List.foldl_append, List.foldl_cons, List.foldl_nil]
      rw [z, h2, e, List.sum_append, List.sum_singleton, Int.emod_add_emod]
    refine ⟨?_, ?_⟩
    · rw [e2, h1, List.range_succ, List.map_append, List.flatten_append]
      simp
    · rw [e2, show withB c (bs.take k) ++ [0, (bs.take (k + 1)).sum % c] = (withB c (bs.take k) ++ [0]) ++ [(bs.take (k + 1)).sum % c] by simp, List.getLastD_concat]
theorem lawB_eq (c : Int) (bs : List Int) : lawB c bs = withB c bs := by
  have z := (withB_last c bs bs.length (Nat.le_refl _)).1
  rw [List.take_length] at z
  exact z.symm
/-- the law's own fair rows, ahead of the clearing -/
def lawFair (c : Int) (m : Nat) (rs : List (List Int)) : List (List Int) := [rep10 (m + 1), rep01 (m + 1)] ++ rs.map withW ++ (leastIn c (upRows c m (formOf c rs))).map (withB c)
theorem lawFair_ok {c : Int} {m : Nat} {rs : List (List Int)} (hc : Clock c) (h : ∀ r ∈ rs, RowOk c m r) : ∀ r ∈ lawFair c m rs, RowOk c (2 * (m + 1)) r := fun r hr => by
  rcases List.mem_append.mp hr with hr | hr
  · rcases List.mem_append.mp hr with hr | hr
    · rcases List.mem_cons.mp hr with rfl | hr
      · exact rep_ok hc 1 0 (by omega) (by omega) (m + 1)
      · have e : r = rep01 (m + 1) := by simpa using hr
        rw [e]
        exact rep_ok hc 0 1 (by omega) (by omega) (m + 1)
    · obtain ⟨q, hq, rfl⟩ := List.mem_map.mp hr
      exact withW_ok hc (h q hq)
  · obtain ⟨q, hq, rfl⟩ := List.mem_map.mp hr
    exact withB_ok hc (leastIn_ok hc (upRows_ok hc) q hq).1
theorem lawFair_len {c : Int} {m : Nat} {rs : List (List Int)} (hc : Clock c) : (lawFair c m rs).length ≤ 2 + rs.length + m := by
  have h2 := leastIn_len hc (upRows_ok (n := m) (F := formOf c rs) hc)
  unfold lawFair
  rw [List.length_append, List.length_append, List.length_map, List.length_map]
  show 2 + rs.length + _ ≤ _
  omega
end K61

set_option Elab.async false
set_option linter.all false
set_option maxRecDepth 100000
set_option maxHeartbeats 4000000
/-! Plain Lean: whites, blacks and what they come from carry spans; the fair rows' whites and blacks. -/
namespace K61
open PySem
/-- f is, by the clock, a linear map of n places to m -/
structure LinM (c : Int) (n m : Nat) (f : List Int → List Int) : Prop where
  ex : ∃ L : (Nat → Int) → Nat → Int, (∀ r, RowOk c n r → ∀ j, j < m → c ∣ (f r).getD j 0 - L (fun i => r.getD i 0) j) ∧ (∀ (u v : Nat → Int) (k : Int) (j : Nat), L (fun i => u i + k * v i) j = L u j + k * L v j) ∧ ∀ u, Z0 c n u → Z0 c m (L u)
theorem LinM.sub {c : Int} {n m : Nat} {f : List Int → List Int} (h : LinM c n m f) {A B : List (List Int)} (hA : ∀ r ∈ A, RowOk c n r) (hB : ∀ r ∈ B, RowOk c n r) (s : Sub c n A B) : Sub c m (A.map f) (B.map f) := by
  obtain ⟨L, h1, h2, h3⟩ := h.ex
  have main : ∀ v, InSp c n B v → InSp c m (B.map f) (L v) := by
    intro v hv
    induction hv with
    | @zero v hz => exact .zero (h3 v hz)
    | @add u v k r hu hr e ih =>
      refine .add k (f r) ih (List.mem_map.mpr ⟨r, hr, rfl⟩) fun j hj => ?_
      have e1 := h2 v (fun i => u i + k * r.getD i 0) (-1) j
      have e2 := h2 u (fun i => r.getD i 0) k j
      have e3 : (fun i => v i + -1 * (u i + k * r.getD i 0)) = fun i => v i - (u i + k * r.getD i 0) := by
        funext i
        omega
      rw [e3, e2] at e1
      obtain ⟨x, hx⟩ := h3 _ e j hj
      obtain ⟨y, hy⟩ := h1 r (hB r hr) j hj
      rw [hx] at e1
      exact ⟨x - k * y, by grind⟩
  intro x hx
  obtain ⟨r, hr, rfl⟩ := List.mem_map.mp hx
  refine (main _ (s r hr)).congr fun j hj => h1 r (hA r hr) j hj
theorem lin_ok {c : Int} {n m : Nat} {f : List Int → List Int} (hf : ∀ r, RowOk c n r → RowOk c m (f r)) {A : List (List Int)} (hA : ∀ r ∈ A, RowOk c n r) : ∀ r ∈ A.map f, RowOk c m r := fun r hr => by
  obtain ⟨q, hq, rfl⟩ := List.mem_map.mp hr
  exact hf q (hA q hq)
theorem Z0.add {c : Int} {a b : Int} (h1 : c ∣ a) (h2 : c ∣ b) : c ∣ a - b := by
  obtain ⟨x, hx⟩ := h1
  obtain ⟨y, hy⟩ := h2
  exact ⟨x - y, by grind⟩
/-! ### whites, blacks -/
theorem whites_get {c : Int} {m : Nat} {r : List Int} (h : r.length = 2 * (m + 1)) {j : Nat} (hj : j < m) : (whitesOf c r).getD j 0 = (r.getD (2 * j + 2) 0 - r.getD 0 0) % c := by
  unfold whitesOf
  have e : (evens (r.drop 2))[j]? = some (r.getD (2 * j + 2) 0) := by
    rw [evens_get, List.getElem?_drop, List.getElem?_eq_getElem (by omega), List.getD_eq_getElem?_getD, List.getElem?_eq_getElem (by omega)]
    congr 1
    show r[2 + 2 * j] = r[2 * j + 2]
    congr 1
    omega
  rw [List.getD_eq_getElem?_getD, List.getElem?_map, e]
  rfl
theorem blacks_get {c : Int} {m : Nat} {r : List Int} (h : r.length = 2 * (m + 1)) {j : Nat} (hj : j < m) : (blacksOf c r).getD j 0 = (r.getD (2 * j + 3) 0 - r.getD (2 * j + 1) 0) % c := by
  unfold blacksOf
  have e : ∀ d, d = 1 ∨ d = 3 → (evens (r.drop d))[j]? = some (r.getD (2 * j + d) 0) := fun d hd => by
    rw [evens_get, List.getElem?_drop, List.getElem?_eq_getElem (by omega), List.getD_eq_getElem?_getD, List.getElem?_eq_getElem (by omega)]
    congr 1
    show r[d + 2 * j] = r[2 * j + d]
    congr 1
    omega
  rw [List.getD_eq_getElem?_getD, List.getElem?_zipWith, e 1 (.inl rfl), e 3 (.inr rfl)]
  rfl
theorem whites_row {c : Int} {m : Nat} (hc : Clock c) {r : List Int} (h : RowOk c (2 * (m + 1)) r) (hm : 1 ≤ m) : RowOk c m (whitesOf c r) := by
  have z := whites_ok hc h.1 (by omega) (by omega)
  rw [show 2 * (m + 1) / 2 - 1 = m by omega] at z
  exact z
theorem blacks_row {c : Int} {m : Nat} (hc : Clock c) {r : List Int} (h : RowOk c (2 * (m + 1)) r) (hm : 1 ≤ m) : RowOk c m (blacksOf c r) := by
  have z := blacks_ok hc h.1 (by omega) (by omega)
  rw [show 2 * (m + 1) / 2 - 1 = m by omega] at z
  exact z
theorem whites_lin {c : Int} {m : Nat} : LinM c (2 * (m + 1)) m (whitesOf c) := by
  refine ⟨fun u j => u (2 * j + 2) - u 0, fun r hr j hj => ?_, fun u v k j => by grind, fun u hu j hj => Z0.add (hu _ (by omega)) (hu _ (by omega))⟩
  rw [whites_get hr.1 hj]
  exact dvd_mod' _ _
theorem blacks_lin {c : Int} {m : Nat} : LinM c (2 * (m + 1)) m (blacksOf c) := by
  refine ⟨fun u j => u (2 * j + 3) - u (2 * j + 1), fun r hr j hj => ?_, fun u v k j => by grind, fun u hu j hj => Z0.add (hu _ (by omega)) (hu _ (by omega))⟩
  rw [blacks_get hr.1 hj]
  exact dvd_mod' _ _
/-! ### rows whose whites, blacks are given -/
theorem pairs_len (g h : Nat → Int) : ∀ n : Nat, (((List.range n).map fun a => [g a, h a]).flatten).length = 2 * n
  | 0 => rfl
  | n + 1 => by
    rw [List.range_succ, List.map_append, List.flatten_append, List.length_append, pairs_len g h n]
    rfl
theorem pairs_get (g h : Nat → Int) : ∀ (n j : Nat), (((List.range n).map fun a => [g a, h a]).flatten).getD j 0 = if j < 2 * n then (if j % 2 = 0 then g (j / 2) else h (j / 2)) else 0
  | 0, j => by simp
  | n + 1, j => by
    have ih := pairs_get g h n
    have hl := pairs_len g h n
    rw [List.range_succ, List.map_append, List.flatten_append]
    rw [List.getD_eq_getElem?_getD]
    by_cases h1 : j < 2 * n
    · rw [List.getElem?_append_left (by rw [hl]; exact h1), ← List.getD_eq_getElem?_getD, ih, if_pos h1, if_pos (show j < 2 * (n + 1) by omega)]
    · rw [List.getElem?_append_right (by rw [hl]; omega), hl]
      by_cases h2 : j = 2 * n
      · rw [h2, Nat.sub_self, if_pos (show 2 * n < 2 * (n + 1) by omega), if_pos (show 2 * n % 2 = 0 by omega), show 2 * n / 2 = n by omega]
        rfl
      · by_cases h3 : j = 2 * n + 1
        · rw [h3, show 2 * n + 1 - 2 * n = 1 by omega, if_pos (show 2 * n + 1 < 2 * (n + 1) by omega), if_neg (show ¬ (2 * n + 1) % 2 = 0 by omega), show (2 * n + 1) / 2 = n by omega]
          rfl
        · rw [if_neg (show ¬ j < 2 * (n + 1) by omega), List.getElem?_eq_none]
          · rfl
          · show 2 ≤ j - 2 * n
            omega
theorem map_rng (r : List Int) (f : Int → List Int) : r.map f = (List.range r.length).map fun i => f (r.getD i 0) := by
  apply List.ext_getElem?
  intro k
  rw [List.getElem?_map, List.getElem?_map]
  by_cases hk : k < r.length
  · rw [List.getElem?_range hk, List.getElem?_eq_getElem hk]
    show some (f r[k]) = some (f (r.getD k 0))
    rw [List.getD_eq_getElem?_getD, List.getElem?_eq_getElem hk]
    rfl
  · rw [List.getElem?_eq_none (by omega), List.getElem?_eq_none (by rw [List.length_range]; omega)]
    rfl
theorem get_two (l : List Int) (j : Nat) : (([0, 0] : List Int) ++ l).getD j 0 = if j < 2 then 0 else l.getD (j - 2) 0 := by
  match j with
  | 0 => rfl
  | 1 => rfl
  | j + 2 =>
    rw [if_neg (by omega), List.getD_eq_getElem?_getD, List.getElem?_append_right (by show 2 ≤ j + 2; omega), List.getD_eq_getElem?_getD]
    rfl
theorem withW_get {m : Nat} {r : List Int} (h : r.length = m) (j : Nat) : (withW r).getD j 0 = if 2 ≤ j ∧ j < 2 * (m + 1) ∧ j % 2 = 0 then r.getD ((j - 2) / 2) 0 else 0 := by
  rw [withW_flat, get_two, map_rng, pairs_get (fun i => r.getD i 0) (fun _ => 0), h]
  by_cases h1 : j < 2
  · rw [if_pos h1, if_neg (by omega)]
  · rw [if_neg h1]
    by_cases h2 : j - 2 < 2 * m
    · rw [if_pos h2]
      by_cases h3 : (j - 2) % 2 = 0
      · rw [if_pos h3, if_pos (by omega)]
      · rw [if_neg h3, if_neg (by omega)]
    · rw [if_neg h2, if_neg (by omega)]
theorem withB_get {c : Int} {m : Nat} {r : List Int} (h : r.length = m) (j : Nat) : (withB c r).getD j 0 = if 3 ≤ j ∧ j < 2 * (m + 1) ∧ j % 2 = 1 then (r.take ((j - 1) / 2)).sum % c else 0 := by
  rw [← lawB_eq]
  unfold lawB
  rw [get_two, pairs_get (fun _ => 0) (fun a => (r.take (a + 1)).sum % c), h]
  by_cases h1 : j < 2
  · rw [if_pos h1, if_neg (by omega)]
  · rw [if_neg h1]
    by_cases h2 : j - 2 < 2 * m
    · rw [if_pos h2]
      by_cases h3 : (j - 2) % 2 = 0
      · rw [if_pos h3, if_neg (by omega)]
      · rw [if_neg h3, if_pos (by omega), show (j - 2) / 2 + 1 = (j - 1) / 2 by omega]
    · rw [if_neg h2, if_neg (by omega)]
def psum (u : Nat → Int) : Nat → Int
  | 0 => 0
  | k + 1 => psum u k + u k
theorem psum_take (r : List Int) : ∀ k, k ≤ r.length → (r.take k).sum = psum (fun i => r.getD i 0) k
  | 0, _ => rfl
  | k + 1, h => by
    have hk : k < r.length := by omega
    rw [List.take_add_one, List.getElem?_eq_getElem hk]
    show (r.take k ++ [r[k]]).sum = psum (fun i => r.getD i 0) k + r.getD k 0
    rw [List.sum_append, List.sum_singleton, psum_take r k (by omega), List.getD_eq_getElem?_getD, List.getElem?_eq_getElem hk]
    rfl
theorem psum_lin (u v : Nat → Int) (k : Int) : ∀ j, psum (fun i => u i + k * v i) j = psum u j + k * psum v j
  | 0 => by simp [psum]
  | j + 1 => by
    show psum (fun i => u i + k * v i) j + (u j + k * v j) = (psum u j + u j) + k * (psum v j + v j)
    rw [psum_lin u v k j]
    grind
theorem psum_zero {c : Int} {u : Nat → Int} : ∀ j, (∀ i, i < j → c ∣ u i) → c ∣ psum u j
  | 0, _ => ⟨0, by simp [psum]⟩
  | j + 1, h => by
    obtain ⟨x, hx⟩ := psum_zero j fun i hi => h i (by omega)
    obtain ⟨y, hy⟩ := h j (by omega)
    exact ⟨x + y, by show psum u j + u j = _; rw [hx, hy]; grind⟩
theorem withW_lin {c : Int} {m : Nat} : LinM c m (2 * (m + 1)) withW := by
  refine ⟨fun u j => if 2 ≤ j ∧ j < 2 * (m + 1) ∧ j % 2 = 0 then u ((j - 2) / 2) else 0, fun r hr j hj => ?_, fun u v k j => ?_, fun u hu j hj => ?_⟩
  · rw [withW_get hr.1]
    exact ⟨0, by simp⟩
  · dsimp only
    split <;> grind
  · dsimp only
    split
    · exact hu _ (by omega)
    · exact ⟨0, by simp⟩
theorem withB_lin {c : Int} {m : Nat} : LinM c m (2 * (m + 1)) (withB c) := by
  refine ⟨fun u j => if 3 ≤ j ∧ j < 2 * (m + 1) ∧ j % 2 = 1 then psum u ((j - 1) / 2) else 0, fun r hr j hj => ?_, fun u v k j => ?_, fun u hu j hj => ?_⟩
  · rw [withB_get hr.1]
    dsimp only
    split
    · rw [psum_take r _ (by rw [hr.1]; omega)]
      exact dvd_mod' _ _
    · exact ⟨0, by simp⟩
  · dsimp only
    split
    · exact psum_lin u v k _
    · grind
  · dsimp only
    split
    · exact psum_zero _ fun i hi => hu i (by omega)
    · exact ⟨0, by simp⟩
/-! ### the whites, the blacks of such rows -/
theorem whites_withW {c : Int} {m : Nat} {r : List Int} (hc : Clock c) (h : RowOk c m r) (hm : 1 ≤ m) : whitesOf c (withW r) = r := by
  refine row_eq hc.pos (whites_row hc (withW_ok hc h) hm) h fun j hj => ?_
  rw [whites_get (withW_ok hc h).1 hj, withW_get h.1, withW_get h.1, if_pos (by omega), if_neg (by omega), show (2 * j + 2 - 2) / 2 = j by omega, Int.sub_zero]
  exact dvd_mod' _ _
theorem blacks_withB {c : Int} {m : Nat} {r : List Int} (hc : Clock c) (h : RowOk c m r) (hm : 1 ≤ m) : blacksOf c (withB c r) = r := by
  have ok := withB_ok (c := c) hc h.1
  refine row_eq hc.pos (blacks_row hc ok hm) h fun j hj => ?_
  have e1 : (withB c r).getD (2 * j + 3) 0 = (psum (fun i => r.getD i 0) (j + 1)) % c := by
    rw [withB_get h.1, if_pos (by omega), show (2 * j + 3 - 1) / 2 = j + 1 by omega, psum_take r _ (by rw [h.1]; omega)]
  have e2 : c ∣ (withB c r).getD (2 * j + 1) 0 - psum (fun i => r.getD i 0) j := by
    rw [withB_get h.1]
    by_cases hj0 : j = 0
    · rw [hj0, if_neg (by omega)]
      exact ⟨0, by simp [psum]⟩
    · rw [if_pos (by omega), show (2 * j + 1 - 1) / 2 = j by omega, psum_take r _ (by rw [h.1]; omega)]
      exact dvd_mod' _ _
  rw [blacks_get ok.1 hj, e1]
  obtain ⟨x, hx⟩ := e2
  obtain ⟨y, hy⟩ := dvd_mod' c (psum (fun i => r.getD i 0) (j + 1))
  obtain ⟨z, hz⟩ := dvd_mod' c (psum (fun i => r.getD i 0) (j + 1) % c - (withB c r).getD (2 * j + 1) 0)
  have e3 : psum (fun i => r.getD i 0) (j + 1) = psum (fun i => r.getD i 0) j + r.getD j 0 := rfl
  exact ⟨z + y - x, by grind⟩
theorem zero_in {c : Int} {n : Nat} {S : List (List Int)} {r : List Int} (h : ∀ j, j < n → c ∣ r.getD j 0) : InSp c n S fun j => r.getD j 0 := .zero h
theorem rep_get (x y : Int) (n j : Nat) : ((List.replicate n [x, y]).flatten).getD j 0 = if j < 2 * n then (if j % 2 = 0 then x else y) else 0 := by
  have e : List.replicate n [x, y] = (List.range n).map fun _ => [x, y] := by
    apply List.ext_getElem?
    intro k
    rw [List.getElem?_map, List.getElem?_replicate]
    by_cases hk : k < n
    · rw [if_pos hk, List.getElem?_range hk]
      rfl
    · rw [if_neg hk, List.getElem?_eq_none (by rw [List.length_range]; omega)]
      rfl
  rw [e, pairs_get (fun _ => x) (fun _ => y)]
theorem whites_none {c : Int} {m : Nat} {r : List Int} (hr : r.length = 2 * (m + 1)) (h : ∀ j, j < m → r.getD (2 * j + 2) 0 = r.getD 0 0) : ∀ j, j < m → c ∣ (whitesOf c r).getD j 0 := fun j hj => by
  rw [whites_get hr hj, h j hj, Int.sub_self]
  exact ⟨0, by simp⟩
theorem blacks_none {c : Int} {m : Nat} {r : List Int} (hr : r.length = 2 * (m + 1)) (h : ∀ j, j < m → r.getD (2 * j + 3) 0 = r.getD (2 * j + 1) 0) : ∀ j, j < m → c ∣ (blacksOf c r).getD j 0 := fun j hj => by
  rw [blacks_get hr hj, h j hj, Int.sub_self]
  exact ⟨0, by simp⟩
theorem rep_len (x y : Int) (n : Nat) : ((List.replicate n [x, y]).flatten).length = 2 * n := by
  simp [List.length_flatten]
  omega
theorem sub_app {c : Int} {n : Nat} {A B A' B' : List (List Int)} (h1 : Sub c n A A') (h2 : Sub c n B B') : Sub c n (A ++ B) (A' ++ B') :=
  Sub.app (h1.trans (Sub.of fun x hx => List.mem_append_left _ hx)) (h2.trans (Sub.of fun x hx => List.mem_append_right _ hx))
/-- the program's fair space has the law's own rows -/
theorem fair_same {c : Int} {m : Nat} {rs : List (List Int)} (hc : Clock c) (h : ∀ r ∈ rs, RowOk c m r) : leastIn c (fairRows c m (formOf c rs)) = leastIn c (lawFair c m rs) := by
  have hF := formOf_red hc h
  obtain ⟨a1, a2⟩ := least_span hc h
  have u0 := upRows_ok (n := m) (F := formOf c rs) hc
  have u1 := leastIn_ok hc u0
  obtain ⟨b1, b2⟩ := least_span hc u1
  have okW : ∀ r ∈ (formOf c rs).map (·.2), RowOk c m r := leastIn_ok hc h
  have s1 : Sub c (2 * (m + 1)) (((formOf c rs).map (·.2)).map withW) (rs.map withW) := withW_lin.sub okW h a1
  have s2 : Sub c (2 * (m + 1)) (rs.map withW) (((formOf c rs).map (·.2)).map withW) := withW_lin.sub h okW a2
  have s3 : Sub c (2 * (m + 1)) ((uprOf c m (formOf c rs)).map (withB c)) ((leastIn c (upRows c m (formOf c rs))).map (withB c)) := withB_lin.sub (uprOf_ok hc) u1 b1
  have s4 : Sub c (2 * (m + 1)) ((leastIn c (upRows c m (formOf c rs))).map (withB c)) ((uprOf c m (formOf c rs)).map (withB c)) := withB_lin.sub u1 (uprOf_ok hc) b2
  exact least_eq hc (fairRows_ok hc hF) (lawFair_ok hc h) (sub_app (sub_app Sub.refl s1) s3) (sub_app (sub_app Sub.refl s2) s4)
theorem half_some {c : Int} {m : Nat} {f : List Int → List Int} (hc : Clock c) (hl : LinM c (2 * (m + 1)) m f) (hf : ∀ r, RowOk c (2 * (m + 1)) r → RowOk c m (f r)) {rs : List (List Int)} (h : ∀ r ∈ rs, RowOk c (2 * (m + 1)) r) : leastIn c ((leastIn c rs).map f) = leastIn c (rs.map f) := by
  obtain ⟨a1, a2⟩ := least_span hc h
  exact least_eq hc (lin_ok hf (leastIn_ok hc h)) (lin_ok hf h) (hl.sub (leastIn_ok hc h) h a1) (hl.sub h (leastIn_ok hc h) a2)
/-- the whites of the fair rows -/
theorem fair_whites {c : Int} {m : Nat} {rs : List (List Int)} (hc : Clock c) (hm : 1 ≤ m) (h : ∀ r ∈ rs, RowOk c m r) : leastIn c ((leastIn c (leastIn c (lawFair c m rs))).map (whitesOf c)) = leastIn c rs := by
  have hl := lawFair_ok hc h
  have hw : ∀ r, RowOk c (2 * (m + 1)) r → RowOk c m (whitesOf c r) := fun r hr => whites_row hc hr hm
  rw [half_some hc whites_lin hw (leastIn_ok hc hl), half_some hc whites_lin hw hl]
  refine least_eq hc (lin_ok hw hl) h (fun x hx => ?_) fun x hx => ?_
  · obtain ⟨r, hr, rfl⟩ := List.mem_map.mp hx
    rcases List.mem_append.mp hr with hr | hr
    · rcases List.mem_append.mp hr with hr | hr
      · have e : r = rep10 (m + 1) ∨ r = rep01 (m + 1) := by simpa using hr
        rcases e with rfl | rfl
        · refine zero_in (whites_none (rep_len _ _ _) fun j hj => ?_)
          unfold rep10
          rw [rep_get, rep_get, if_pos (by omega), if_pos (by omega), if_pos (by omega), if_pos (by omega)]
        · refine zero_in (whites_none (rep_len _ _ _) fun j hj => ?_)
          unfold rep01
          rw [rep_get, rep_get, if_pos (by omega), if_pos (by omega), if_pos (by omega), if_pos (by omega)]
      · obtain ⟨q, hq, rfl⟩ := List.mem_map.mp hr
        rw [whites_withW hc (h q hq) hm]
        exact .mem hq
    · obtain ⟨q, hq, rfl⟩ := List.mem_map.mp hr
      have okq := leastIn_ok hc (upRows_ok (n := m) (F := formOf c rs) hc) q hq
      refine zero_in (whites_none (withB_ok hc okq.1).1 fun j hj => ?_)
      rw [withB_get okq.1, withB_get okq.1, if_neg (by omega), if_neg (by omega)]
  · refine .mem (List.mem_map.mpr ⟨withW x, ?_, whites_withW hc (h x hx) hm⟩)
    exact List.mem_append_left _ (List.mem_append_right _ (List.mem_map.mpr ⟨x, hx, rfl⟩))
theorem fair_blacks {c : Int} {m : Nat} {rs : List (List Int)} (hc : Clock c) (hm : 1 ≤ m) (h : ∀ r ∈ rs, RowOk c m r) : leastIn c ((leastIn c (leastIn c (lawFair c m rs))).map (blacksOf c)) = leastIn c (upRows c m (formOf c rs)) := by
  have hl := lawFair_ok hc h
  have hw : ∀ r, RowOk c (2 * (m + 1)) r → RowOk c m (blacksOf c r) := fun r hr => blacks_row hc hr hm
  have u0 := upRows_ok (n := m) (F := formOf c rs) hc
  have u1 := leastIn_ok hc u0
  obtain ⟨b1, b2⟩ := least_span hc u0
  rw [half_some hc blacks_lin hw (leastIn_ok hc hl), half_some hc blacks_lin hw hl]
  refine least_eq hc (lin_ok hw hl) u0 (fun x hx => ?_) (b2.trans fun x hx => ?_)
  · obtain ⟨r, hr, rfl⟩ := List.mem_map.mp hx
    rcases List.mem_append.mp hr with hr | hr
    · rcases List.mem_append.mp hr with hr | hr
      · have e : r = rep10 (m + 1) ∨ r = rep01 (m + 1) := by simpa using hr
        rcases e with rfl | rfl
        · refine zero_in (blacks_none (rep_len _ _ _) fun j hj => ?_)
          unfold rep10
          rw [rep_get, rep_get, if_pos (show 2 * j + 3 < 2 * (m + 1) by omega), if_pos (show 2 * j + 1 < 2 * (m + 1) by omega), if_neg (show ¬ (2 * j + 3) % 2 = 0 by omega), if_neg (show ¬ (2 * j + 1) % 2 = 0 by omega)]
        · refine zero_in (blacks_none (rep_len _ _ _) fun j hj => ?_)
          unfold rep01
          rw [rep_get, rep_get, if_pos (show 2 * j + 3 < 2 * (m + 1) by omega), if_pos (show 2 * j + 1 < 2 * (m + 1) by omega), if_neg (show ¬ (2 * j + 3) % 2 = 0 by omega), if_neg (show ¬ (2 * j + 1) % 2 = 0 by omega)]
      · obtain ⟨q, hq, rfl⟩ := List.mem_map.mp hr
        have okq := h q hq
        refine zero_in (blacks_none (withW_ok hc okq).1 fun j hj => ?_)
        rw [withW_get okq.1, withW_get okq.1, if_neg (by omega), if_neg (by omega)]
    · obtain ⟨q, hq, rfl⟩ := List.mem_map.mp hr
      rw [blacks_withB hc (u1 q hq) hm]
      exact b1 q hq
  · refine .mem (List.mem_map.mpr ⟨withB c x, ?_, blacks_withB hc (u1 x hx) hm⟩)
    exact List.mem_append_right _ (List.mem_map.mpr ⟨x, hx, rfl⟩)
end K61

set_option Elab.async false
set_option linter.all false
set_option maxRecDepth 100000
set_option maxHeartbeats 4000000
/-! Plain Lean: small data may be shown; the swing by whites and blacks. -/
namespace K61
open PySem
/-- d may be shown: depth at most k, text at most l -/
structure RepW (d : PyData) (k l : Nat) : Prop where
  s : d.showable = true
  h : d.hasDict = false
  dp : d.depth ≤ k
  ln : d.shown.length ≤ l
theorem small_ints : ∀ k ∈ List.range 1000, (PyData.shown (.int ((k : Nat) : Int))).length ≤ 4 ∧ PyData.showable (.int ((k : Nat) : Int)) = true := by decide +kernel
theorem RepW.int {i : Int} (h0 : 0 ≤ i) (h1 : i < 1000) : RepW (.int i) 0 4 := by
  obtain ⟨k, rfl⟩ : ∃ k : Nat, i = (k : Int) := ⟨i.toNat, by omega⟩
  obtain ⟨a, b⟩ := small_ints k (List.mem_range.mpr (by omega))
  exact ⟨b, rfl, Nat.le_refl _, a⟩
theorem RepW.mono {d : PyData} {k l k' l' : Nat} (h : RepW d k l) (hk : k ≤ k') (hl : l ≤ l') : RepW d k' l' := ⟨h.s, h.h, Nat.le_trans h.dp hk, Nat.le_trans h.ln hl⟩
theorem rep_all {k l : Nat} : ∀ {ds : List PyData}, (∀ d ∈ ds, RepW d k l) → PyData.showableAll ds = true ∧ PyData.hasDictAll ds = false ∧ PyData.depthAll ds ≤ k ∧ piled (PyData.shownAll ds) ≤ (l + 2) * ds.length
  | [], _ => ⟨rfl, rfl, Nat.zero_le _, Nat.le_refl _⟩
  | d :: ds, h => by
    obtain ⟨a, b, c, e⟩ := rep_all (ds := ds) fun x hx => h x (List.mem_cons_of_mem _ hx)
    obtain ⟨a', b', c', e'⟩ := h d List.mem_cons_self
    refine ⟨?_, ?_, ?_, ?_⟩
    · show (PyData.showable d && PyData.showableAll ds) = true
      rw [a, a']
      rfl
    · show (PyData.hasDict d || PyData.hasDictAll ds) = false
      rw [b, b']
      rfl
    · show max (PyData.depth d) (PyData.depthAll ds) ≤ k
      omega
    · show piled (PyData.shown d :: PyData.shownAll ds) ≤ _
      rw [piled_cons, List.length_cons, Nat.mul_succ]
      omega
theorem textFrom_le : ∀ (ts : List Str) (k : Nat) (acc : Str), (textFrom k acc ts).length ≤ acc.length + piled ts
  | [], k, acc => Nat.le_add_right _ _
  | t :: r, k, acc => by
    have ih := textFrom_le r (k + 1) (acc ++ (if k > 0 then ", " else "" : String) ++ t)
    have e : (acc ++ (if k > 0 then ", " else "" : String) ++ t).length = acc.length + (if k > 0 then 2 else 0) + t.length := by
      rw [strLen_append, strLen_append]
      split <;> rfl
    have e2 : (if k > 0 then 2 else 0 : Nat) ≤ 2 := by split <;> omega
    show (textFrom (k + 1) _ r).length ≤ _
    rw [piled_cons]
    rw [e] at ih
    omega
theorem listText_le (ts : List Str) : (listText ts).length ≤ 2 + piled ts := by
  unfold listText
  have h := textFrom_le ts 0 "["
  rw [strLen_append]
  have e1 : ((("[" : String) : Str)).length = 1 := rfl
  have e2 : ((("]" : String) : Str)).length = 1 := rfl
  rw [e1] at h
  rw [e2]
  omega
theorem tupleText_le (ts : List Str) : (tupleText ts).length ≤ 3 + piled ts := by
  unfold tupleText
  rw [strLen_append, strLen_append]
  have e1 : ((("(" : String) : Str)).length = 1 := rfl
  have e3 : (((if ts.length == 1 then ",)" else ")" : String) : Str)).length ≤ 2 := by split <;> decide
  rw [e1]
  by_cases h : ts = []
  · subst h
    have e4 : (Str.join ", " []).length = 0 := rfl
    omega
  · have := join_length_add ts h
    omega
theorem RepW.lst {ds : List PyData} {k l : Nat} (h : ∀ d ∈ ds, RepW d k l) : RepW (.list ds) (k + 1) (3 + (l + 2) * ds.length) := by
  obtain ⟨a, b, c, e⟩ := rep_all h
  refine ⟨a, b, ?_, ?_⟩
  · show PyData.depthAll ds + 1 ≤ k + 1
    omega
  · have := listText_le (PyData.shownAll ds)
    show (listText (PyData.shownAll ds)).length ≤ _
    omega
theorem RepW.tup {ds : List PyData} {k l : Nat} (h : ∀ d ∈ ds, RepW d k l) : RepW (.tuple ds) (k + 1) (3 + (l + 2) * ds.length) := by
  obtain ⟨a, b, c, e⟩ := rep_all h
  refine ⟨a, b, ?_, ?_⟩
  · show PyData.depthAll ds + 1 ≤ k + 1
    omega
  · have := tupleText_le (PyData.shownAll ds)
    show (tupleText (PyData.shownAll ds)).length ≤ _
    omega
theorem rep_row {c : Int} {n : Nat} {r : List Int} (hc : Clock c) (h : RowOk c n r) (hn : n ≤ 100) : RepW (dT r) 1 700 := by
  have c1 := hc.le
  refine (RepW.tup (k := 0) (l := 4) fun d hd => ?_).mono (Nat.le_refl _) ?_
  · obtain ⟨x, hx, rfl⟩ := List.mem_map.mp hd
    obtain ⟨a, b⟩ := h.2 x hx
    exact RepW.int a (by omega)
  · rw [List.length_map, h.1]
    omega
theorem rep_rows {c : Int} {n : Nat} {rs : List (List Int)} (hc : Clock c) (h : ∀ r ∈ rs, RowOk c n r) (hn : n ≤ 100) (hl : rs.length ≤ 100) : RepW (dTT rs) 2 71000 := by
  refine (RepW.tup (k := 1) (l := 700) fun d hd => ?_).mono (Nat.le_refl _) ?_
  · obtain ⟨r, hr, rfl⟩ := List.mem_map.mp hd
    exact rep_row hc (h r hr) hn
  · rw [List.length_map]
    have : (700 + 2) * rs.length ≤ 702 * 100 := Nat.mul_le_mul_left _ hl
    omega
/-! ### the swing -/
theorem sum_cong {c : Int} : ∀ {xs ys zs : List Int}, xs.length = ys.length → (∀ i, c ∣ xs.getD i 0 - ys.getD i 0) → c ∣ (List.zipWith (fun x y => x * y) xs zs).sum - (List.zipWith (fun x y => x * y) ys zs).sum
  | [], [], _, _, _ => ⟨0, by simp⟩
  | [], _ :: _, _, h, _ => by cases h
  | _ :: _, [], _, h, _ => by cases h
  | x :: xs, y :: ys, [], _, _ => ⟨0, by simp⟩
  | x :: xs, y :: ys, z :: zs, h, hc => by
    obtain ⟨p, hp⟩ := sum_cong (xs := xs) (ys := ys) (zs := zs) (Nat.succ.inj h) fun i => by
      have := hc (i + 1)
      simpa using this
    obtain ⟨q, hq⟩ := hc 0
    have hq' : x - y = c * q := hq
    refine ⟨q * z + p, ?_⟩
    rw [List.zipWith_cons_cons, List.zipWith_cons_cons, List.sum_cons, List.sum_cons]
    grind
theorem zip_comm : ∀ (a b : List Int), (List.zipWith (fun x y => x * y) a b).sum = (List.zipWith (fun x y => x * y) b a).sum
  | [], [] => rfl
  | [], _ :: _ => rfl
  | _ :: _, [] => rfl
  | x :: a, y :: b => by
    rw [List.zipWith_cons_cons, List.zipWith_cons_cons, List.sum_cons, List.sum_cons, zip_comm a b, Int.mul_comm]
theorem mods_cong {c : Int} (l : List Int) : ∀ i, c ∣ (l.map fun x => x % c).getD i 0 - l.getD i 0 := fun i => by
  rw [List.getD_eq_getElem?_getD, List.getElem?_map, List.getD_eq_getElem?_getD]
  cases l[i]? with
  | none => exact ⟨0, by simp⟩
  | some x => exact dvd_mod' c x
theorem mods_left {c : Int} (l b : List Int) : c ∣ (List.zipWith (fun x y => x * y) (l.map fun x => x % c) b).sum - (List.zipWith (fun x y => x * y) l b).sum := sum_cong (by rw [List.length_map]) (mods_cong l)
theorem mods_both {c : Int} (l k : List Int) : c ∣ (List.zipWith (fun x y => x * y) (l.map fun x => x % c) (k.map fun x => x % c)).sum - (List.zipWith (fun x y => x * y) l k).sum := by
  obtain ⟨p, hp⟩ := mods_left (c := c) l (k.map fun x => x % c)
  obtain ⟨q, hq⟩ := mods_left (c := c) k l
  rw [zip_comm, zip_comm k l] at hq
  exact ⟨p + q, by grind⟩
def diffRaw (r : List Int) : List Int := (List.range r.length).map fun g => r.getD (if g = 0 then r.length - 1 else g - 1) 0 - r.getD ((g + 1) % r.length) 0
def whitesRaw (r : List Int) : List Int := (evens (r.drop 2)).map fun x => x - r.getD 0 0
def blacksRaw (r : List Int) : List Int := List.zipWith (fun x y => y - x) (evens (r.drop 1)) (evens (r.drop 3))
theorem diff_raw (c : Int) (r : List Int) : diffOf c r = (diffRaw r).map fun x => x % c := by
  unfold diffOf diffRaw
  rw [List.map_map]
  rfl
theorem whites_raw (c : Int) (r : List Int) : whitesOf c r = (whitesRaw r).map fun x => x % c := by
  unfold whitesOf whitesRaw
  rw [List.map_map]
  rfl
theorem blacks_raw (c : Int) (r : List Int) : blacksOf c r = (blacksRaw r).map fun x => x % c := by
  unfold blacksOf blacksRaw
  rw [List.map_zipWith]
def dotL (a b : List Int) : Int := (List.zipWith (fun x y => x * y) a b).sum
theorem swing_of_raw {c : Int} {a b : List Int} (h : dotL (diffRaw a) b = dotL (whitesRaw a) (blacksRaw b) - dotL (whitesRaw b) (blacksRaw a)) :
    swingOf c a b = (dotL (whitesOf c a) (blacksOf c b) - dotL (whitesOf c b) (blacksOf c a)) % c := by
  unfold swingOf
  rw [diff_raw, whites_raw, blacks_raw, whites_raw, blacks_raw]
  obtain ⟨p, hp⟩ := mods_left (c := c) (diffRaw a) b
  obtain ⟨q, hq⟩ := mods_both (c := c) (whitesRaw a) (blacksRaw b)
  obtain ⟨t, ht⟩ := mods_both (c := c) (whitesRaw b) (blacksRaw a)
  unfold dotL at h ⊢
  refine Int.emod_eq_emod_iff_emod_sub_eq_zero.mpr (Int.emod_eq_zero_of_dvd ⟨p - q + t, ?_⟩)
  grind
theorem swing_raw4 (a0 a1 a2 a3 b0 b1 b2 b3 : Int) : dotL (diffRaw [a0, a1, a2, a3]) [b0, b1, b2, b3] = dotL (whitesRaw [a0, a1, a2, a3]) (blacksRaw [b0, b1, b2, b3]) - dotL (whitesRaw [b0, b1, b2, b3]) (blacksRaw [a0, a1, a2, a3]) := by
  have e1 : diffRaw [a0, a1, a2, a3] = [a3 - a1, a0 - a2, a1 - a3, a2 - a0] := by simp [diffRaw, List.range, List.range.loop]
  have e2 : whitesRaw [a0, a1, a2, a3] = [a2 - a0] := rfl
  have e3 : whitesRaw [b0, b1, b2, b3] = [b2 - b0] := rfl
  have e4 : blacksRaw [a0, a1, a2, a3] = [a3 - a1] := rfl
  have e5 : blacksRaw [b0, b1, b2, b3] = [b3 - b1] := rfl
  rw [e1, e2, e3, e4, e5]
  unfold dotL
  simp only [List.zipWith_cons_cons, List.zipWith_nil_left, List.zipWith_nil_right, List.sum_cons, List.sum_nil]
  grind
theorem swing_raw6 (a0 a1 a2 a3 a4 a5 b0 b1 b2 b3 b4 b5 : Int) : dotL (diffRaw [a0, a1, a2, a3, a4, a5]) [b0, b1, b2, b3, b4, b5] = dotL (whitesRaw [a0, a1, a2, a3, a4, a5]) (blacksRaw [b0, b1, b2, b3, b4, b5]) - dotL (whitesRaw [b0, b1, b2, b3, b4, b5]) (blacksRaw [a0, a1, a2, a3, a4, a5]) := by
  have e1 : diffRaw [a0, a1, a2, a3, a4, a5] = [a5 - a1, a0 - a2, a1 - a3, a2 - a4, a3 - a5, a4 - a0] := by simp [diffRaw, List.range, List.range.loop]
  have e2 : whitesRaw [a0, a1, a2, a3, a4, a5] = [a2 - a0, a4 - a0] := rfl
  have e3 : whitesRaw [b0, b1, b2, b3, b4, b5] = [b2 - b0, b4 - b0] := rfl
  have e4 : blacksRaw [a0, a1, a2, a3, a4, a5] = [a3 - a1, a5 - a3] := rfl
  have e5 : blacksRaw [b0, b1, b2, b3, b4, b5] = [b3 - b1, b5 - b3] := rfl
  rw [e1, e2, e3, e4, e5]
  unfold dotL
  simp only [List.zipWith_cons_cons, List.zipWith_nil_left, List.zipWith_nil_right, List.sum_cons, List.sum_nil]
  grind
theorem swing_raw8 (a0 a1 a2 a3 a4 a5 a6 a7 b0 b1 b2 b3 b4 b5 b6 b7 : Int) : dotL (diffRaw [a0, a1, a2, a3, a4, a5, a6, a7]) [b0, b1, b2, b3, b4, b5, b6, b7] = dotL (whitesRaw [a0, a1, a2, a3, a4, a5, a6, a7]) (blacksRaw [b0, b1, b2, b3, b4, b5, b6, b7]) - dotL (whitesRaw [b0, b1, b2, b3, b4, b5, b6, b7]) (blacksRaw [a0, a1, a2, a3, a4, a5, a6, a7]) := by
  have e1 : diffRaw [a0, a1, a2, a3, a4, a5, a6, a7] = [a7 - a1, a0 - a2, a1 - a3, a2 - a4, a3 - a5, a4 - a6, a5 - a7, a6 - a0] := by simp [diffRaw, List.range, List.range.loop]
  have e2 : whitesRaw [a0, a1, a2, a3, a4, a5, a6, a7] = [a2 - a0, a4 - a0, a6 - a0] := rfl
  have e3 : whitesRaw [b0, b1, b2, b3, b4, b5, b6, b7] = [b2 - b0, b4 - b0, b6 - b0] := rfl
  have e4 : blacksRaw [a0, a1, a2, a3, a4, a5, a6, a7] = [a3 - a1, a5 - a3, a7 - a5] := rfl
  have e5 : blacksRaw [b0, b1, b2, b3, b4, b5, b6, b7] = [b3 - b1, b5 - b3, b7 - b5] := rfl
  rw [e1, e2, e3, e4, e5]
  unfold dotL
  simp only [List.zipWith_cons_cons, List.zipWith_nil_left, List.zipWith_nil_right, List.sum_cons, List.sum_nil]
  grind
theorem swing_raw10 (a0 a1 a2 a3 a4 a5 a6 a7 a8 a9 b0 b1 b2 b3 b4 b5 b6 b7 b8 b9 : Int) : dotL (diffRaw [a0, a1, a2, a3, a4, a5, a6, a7, a8, a9]) [b0, b1, b2, b3, b4, b5, b6, b7, b8, b9] = dotL (whitesRaw [a0, a1, a2, a3, a4, a5, a6, a7, a8, a9]) (blacksRaw [b0, b1, b2, b3, b4, b5, b6, b7, b8, b9]) - dotL (whitesRaw [b0, b1, b2, b3, b4, b5, b6, b7, b8, b9]) (blacksRaw [a0, a1, a2, a3, a4, a5, a6, a7, a8, a9]) := by
  have e1 : diffRaw [a0, a1, a2, a3, a4, a5, a6, a7, a8, a9] = [a9 - a1, a0 - a2, a1 - a3, a2 - a4, a3 - a5, a4 - a6, a5 - a7, a6 - a8, a7 - a9, a8 - a0] := by simp [diffRaw, List.range, List.range.loop]
  have e2 : whitesRaw [a0, a1, a2, a3, a4, a5, a6, a7, a8, a9] = [a2 - a0, a4 - a0, a6 - a0, a8 - a0] := rfl
  have e3 : whitesRaw [b0, b1, b2, b3, b4, b5, b6, b7, b8, b9] = [b2 - b0, b4 - b0, b6 - b0, b8 - b0] := rfl
  have e4 : blacksRaw [a0, a1, a2, a3, a4, a5, a6, a7, a8, a9] = [a3 - a1, a5 - a3, a7 - a5, a9 - a7] := rfl
  have e5 : blacksRaw [b0, b1, b2, b3, b4, b5, b6, b7, b8, b9] = [b3 - b1, b5 - b3, b7 - b5, b9 - b7] := rfl
  rw [e1, e2, e3, e4, e5]
  unfold dotL
  simp only [List.zipWith_cons_cons, List.zipWith_nil_left, List.zipWith_nil_right, List.sum_cons, List.sum_nil]
  grind
theorem swing_raw16 (a0 a1 a2 a3 a4 a5 a6 a7 a8 a9 a10 a11 a12 a13 a14 a15 b0 b1 b2 b3 b4 b5 b6 b7 b8 b9 b10 b11 b12 b13 b14 b15 : Int) : dotL (diffRaw [a0, a1, a2, a3, a4, a5, a6, a7, a8, a9, a10, a11, a12, a13, a14, a15]) [b0, b1, b2, b3, b4, b5, b6, b7, b8, b9, b10, b11, b12, b13, b14, b15] = dotL (whitesRaw [a0, a1, a2, a3, a4, a5, a6, a7, a8, a9, a10, a11, a12, a13, a14, a15]) (blacksRaw [b0, b1, b2, b3, b4, b5, b6, b7, b8, b9, b10, b11, b12, b13, b14, b15]) - dotL (whitesRaw [b0, b1, b2, b3, b4, b5, b6, b7, b8, b9, b10, b11, b12, b13, b14, b15]) (blacksRaw [a0, a1, a2, a3, a4, a5, a6, a7, a8, a9, a10, a11, a12, a13, a14, a15]) := by
  have e1 : diffRaw [a0, a1, a2, a3, a4, a5, a6, a7, a8, a9, a10, a11, a12, a13, a14, a15] = [a15 - a1, a0 - a2, a1 - a3, a2 - a4, a3 - a5, a4 - a6, a5 - a7, a6 - a8, a7 - a9, a8 - a10, a9 - a11, a10 - a12, a11 - a13, a12 - a14, a13 - a15, a14 - a0] := by simp [diffRaw, List.range, List.range.loop]
  have e2 : whitesRaw [a0, a1, a2, a3, a4, a5, a6, a7, a8, a9, a10, a11, a12, a13, a14, a15] = [a2 - a0, a4 - a0, a6 - a0, a8 - a0, a10 - a0, a12 - a0, a14 - a0] := rfl
  have e3 : whitesRaw [b0, b1, b2, b3, b4, b5, b6, b7, b8, b9, b10, b11, b12, b13, b14, b15] = [b2 - b0, b4 - b0, b6 - b0, b8 - b0, b10 - b0, b12 - b0, b14 - b0] := rfl
  have e4 : blacksRaw [a0, a1, a2, a3, a4, a5, a6, a7, a8, a9, a10, a11, a12, a13, a14, a15] = [a3 - a1, a5 - a3, a7 - a5, a9 - a7, a11 - a9, a13 - a11, a15 - a13] := rfl
  have e5 : blacksRaw [b0, b1, b2, b3, b4, b5, b6, b7, b8, b9, b10, b11, b12, b13, b14, b15] = [b3 - b1, b5 - b3, b7 - b5, b9 - b7, b11 - b9, b13 - b11, b15 - b13] := rfl
  rw [e1, e2, e3, e4, e5]
  unfold dotL
  simp only [List.zipWith_cons_cons, List.zipWith_nil_left, List.zipWith_nil_right, List.sum_cons, List.sum_nil]
  grind
theorem swing_law {c : Int} {n : Nat} {a b : List Int} (hn : n = 4 ∨ n = 6 ∨ n = 8 ∨ n = 10 ∨ n = 16) (ha : a.length = n) (hb : b.length = n) : swingOf c a b = (dotL (whitesOf c a) (blacksOf c b) - dotL (whitesOf c b) (blacksOf c a)) % c := by
  refine swing_of_raw ?_
  rcases hn with rfl | rfl | rfl | rfl | rfl
  · match a, ha, b, hb with
    | [a0, a1, a2, a3], _, [b0, b1, b2, b3], _ => exact swing_raw4 a0 a1 a2 a3 b0 b1 b2 b3
  · match a, ha, b, hb with
    | [a0, a1, a2, a3, a4, a5], _, [b0, b1, b2, b3, b4, b5], _ => exact swing_raw6 a0 a1 a2 a3 a4 a5 b0 b1 b2 b3 b4 b5
  · match a, ha, b, hb with
    | [a0, a1, a2, a3, a4, a5, a6, a7], _, [b0, b1, b2, b3, b4, b5, b6, b7], _ => exact swing_raw8 a0 a1 a2 a3 a4 a5 a6 a7 b0 b1 b2 b3 b4 b5 b6 b7
  · match a, ha, b, hb with
    | [a0, a1, a2, a3, a4, a5, a6, a7, a8, a9], _, [b0, b1, b2, b3, b4, b5, b6, b7, b8, b9], _ => exact swing_raw10 a0 a1 a2 a3 a4 a5 a6 a7 a8 a9 b0 b1 b2 b3 b4 b5 b6 b7 b8 b9
  · match a, ha, b, hb with
    | [a0, a1, a2, a3, a4, a5, a6, a7, a8, a9, a10, a11, a12, a13, a14, a15], _, [b0, b1, b2, b3, b4, b5, b6, b7, b8, b9, b10, b11, b12, b13, b14, b15], _ => exact swing_raw16 a0 a1 a2 a3 a4 a5 a6 a7 a8 a9 a10 a11 a12 a13 a14 a15 b0 b1 b2 b3 b4 b5 b6 b7 b8 b9 b10 b11 b12 b13 b14 b15
end K61

set_option Elab.async false
set_option linter.all false
set_option maxRecDepth 100000
set_option maxHeartbeats 4000000
/-! The walks: checks (is_integer .. is_row), the kind of a value. -/
namespace K61
open PySem PySem.Spec PyProof.Rows L2
/-! ### kinds of values -/
def isI : V → Bool
  | .int _ => true
  | _ => false
/-- what the isinstance tests of is_integer find -/
def TyI (K : PySem.W.Frag) (H : Hp) (x : V) : Prop := ∃ t b1 b2, TyX K H x t ∧ PySem.W.kitOne K t (.type "int") = some b1 ∧ PySem.W.kitOne K t (.type "bool") = some b2 ∧ (b1 && !b2) = isI x
theorem tyI_int (K : PySem.W.Frag) (H : Hp) (i : Int) : TyI K H (.int i) := ⟨_, _, _, .base (.int i), kit_ty (by decide +kernel : kitB "int" "int" = some true), kit_ty (by decide +kernel : kitB "int" "bool" = some false), rfl⟩
theorem tyI_bl (K : PySem.W.Frag) (H : Hp) (b : Bool) : TyI K H (.bl b) := ⟨_, _, _, .base (.bl b), kit_ty (by decide +kernel : kitB "bool" "int" = some true), kit_ty (by decide +kernel : kitB "bool" "bool" = some true), rfl⟩
theorem tyI_non (K : PySem.W.Frag) (H : Hp) : TyI K H .non := ⟨_, _, _, .base .non, kit_ty (by decide +kernel : kitB "NoneType" "int" = some false), kit_ty (by decide +kernel : kitB "NoneType" "bool" = some false), rfl⟩
theorem tyI_str (K : PySem.W.Frag) (H : Hp) (z : Str) : TyI K H (.str z) := ⟨_, _, _, .base (.str z), kit_ty (by decide +kernel : kitB "str" "int" = some false), kit_ty (by decide +kernel : kitB "str" "bool" = some false), rfl⟩
/-- a value between -/
def within (lo hi : Int) : V → Bool
  | .int i => decide (lo ≤ i) && decide (i ≤ hi)
  | _ => false
def clocks : List Int := [3, 5, 7, 11, 13, 17, 19, 23, 29, 31]
def clockB : V → Bool
  | .int i => clocks.any fun c => decide (c = i)
  | _ => false
abbrev s_is_integer : Stmt := top 10
abbrev N_is_integer : List Str := ["value"]
theorem sc_is_integer : FnScope N_is_integer ["value"] (defScope s_is_integer) := ⟨rfl, rfl, rfl, by decide +kernel, rfl, by decide +kernel, by decide +kernel⟩
abbrev s_is_within : Stmt := top 11
abbrev N_is_within : List Str := ["value", "least", "most"]
theorem sc_is_within : FnScope N_is_within ["value", "least", "most"] (defScope s_is_within) := ⟨rfl, rfl, rfl, by decide +kernel, rfl, by decide +kernel, by decide +kernel⟩
abbrev s_is_clock : Stmt := top 12
abbrev N_is_clock : List Str := ["value"]
theorem sc_is_clock : FnScope N_is_clock ["value"] (defScope s_is_clock) := ⟨rfl, rfl, rfl, by decide +kernel, rfl, by decide +kernel, by decide +kernel⟩
abbrev s_is_row : Stmt := top 13
abbrev N_is_row : List Str := ["value", "clock", "size", "each"]
theorem sc_is_row : FnScope N_is_row ["value", "clock", "size"] (defScope s_is_row) := ⟨rfl, rfl, rfl, by decide +kernel, rfl, by decide +kernel, by decide +kernel⟩
def sp_is_integer (K : PySem.W.Frag) : Sp := fun vs H Q _ => ∃ x, vs = [x] ∧ TyI K H x ∧ Q (.bl (isI x)) H
def sp_is_within (K : PySem.W.Frag) : Sp := fun vs H Q _ => ∃ x lo hi, vs = [x, .int lo, .int hi] ∧ TyI K H x ∧ Q (.bl (within lo hi x)) H
def sp_is_clock (K : PySem.W.Frag) : Sp := fun vs H Q _ => ∃ x, vs = [x] ∧ TyI K H x ∧ Q (.bl (clockB x)) H
/-- a list or a tuple of plain values (items told), or what is neither -/
inductive SeqK (K : PySem.W.Frag) (H : Hp) : V → Option (List V) → Prop
  | lst {a : Addr} {xs : List V} : SqL K H a xs → SeqK K H (.ref a) (some xs)
  | tup {a : Addr} {xs : List V} : SqT K H a xs → SeqK K H (.ref a) (some xs)
  | no {x : V} {t : Value} : TyX K H x t → PySem.W.kitOne K t (.type "list") = some false → PySem.W.kitOne K t (.type "tuple") = some false → SeqK K H x none
def rowB (c n : Int) : Option (List V) → Bool
  | none => false
  | some xs => decide ((xs.length : Int) = n) && xs.all (within 0 (c - 1))
def sp_is_row (K : PySem.W.Frag) : Sp := fun vs H Q _ => ∃ x c n r, vs = [x, .int c, .int n] ∧ SeqK K H x r ∧ (∀ xs, r = some xs → xs.length ≤ sizeLine ∧ ∀ H' y, Same H H' → y ∈ xs → TyI K H' y) ∧ ∀ H', Same H H' → Q (.bl (rowB c n r)) H'
/-- CLOCKS, as the module holds it -/
structure Clk (K : PySem.W.Frag) (mg : Str → Option Value) : Prop where
  clk : ∃ a, mg "CLOCKS" = some (.ref a) ∧ ∀ H : Hp, SqT K H a (clocks.map V.int)
theorem tyx_same {K : PySem.W.Frag} {H H' : Hp} (s : Same H H') {x : V} {t : Value} (h : TyX K H x t) : TyX K H' x t := by
  cases h with
  | base b =>
    cases b with
    | non => exact .base .non
    | bl y => exact .base (.bl y)
    | int i => exact .base (.int i)
    | str y => exact .base (.str y)
    | flt y => exact .base (.flt y)
    | lst e => exact .base (.lst (s _ _ e))
    | frz e => exact .base (.frz (s _ _ e))
    | tup e => exact .base (.tup (s _ _ e))
    | dK e => exact .base (.dK (s _ _ e))
    | dT e => exact .base (.dT (s _ _ e))
    | ins e cl ha hn htk hm => exact .base (.ins (s _ _ e) cl ha hn htk hm)
  | byt b => exact .byt b
  | set e => exact .set (s _ _ e)
  | kList e c => exact .kList e c
  | kTuple e c => exact .kTuple e c
  | kDict e c => exact .kDict e c
  | fTuple e => exact .fTuple (s _ _ e)
  | fDict e => exact .fDict (s _ _ e)
theorem tyx_lst {K : PySem.W.Frag} {H : Hp} {a : Addr} {xs : List V} (h : SqL K H a xs) : TyX K H (.ref a) (.type "list") := by
  rcases h with (h | ⟨o, h⟩) | ⟨o, _, _, e, c, _⟩
  · exact .base (.lst h)
  · exact .base (.frz h)
  · exact .kList e c
theorem tyx_tup {K : PySem.W.Frag} {H : Hp} {a : Addr} {xs : List V} (h : SqT K H a xs) : TyX K H (.ref a) (.type "tuple") := by
  rcases h with (h | ⟨o, h⟩) | ⟨o, _, _, e, c, _⟩
  · exact .base (.tup h)
  · exact .fTuple h
  · exact .kTuple e c
theorem tyI_same {K : PySem.W.Frag} {H H' : Hp} (s : Same H H') {x : V} (h : TyI K H x) : TyI K H' x := by
  obtain ⟨t, b1, b2, ty, r⟩ := h
  exact ⟨t, b1, b2, tyx_same s ty, r⟩
theorem all_range {α : Type} (l : List α) (p : α → Bool) (d : α) : ((List.range l.length).all fun i => p ((l[i]?).getD d)) = l.all p := by
  rw [Bool.eq_iff_iff, List.all_eq_true, List.all_eq_true]
  constructor
  · intro h x hx
    obtain ⟨i, hi, rfl⟩ := List.getElem_of_mem hx
    have q := h i (List.mem_range.mpr hi)
    rw [List.getElem?_eq_getElem hi] at q
    exact q
  · intro h i hi
    have hi' := List.mem_range.mp hi
    rw [List.getElem?_eq_getElem hi']
    exact h _ (List.getElem_mem hi')
theorem rowB_all {c n : Int} {xs : List V} (hn : (xs.length : Int) = n) : ((List.range xs.length).map fun i => within 0 (c - 1) ((xs[i]?).getD .non)).all id = rowB c n (some xs) := by
  rw [List.all_map]
  show (List.range xs.length).all (fun i => within 0 (c - 1) ((xs[i]?).getD .non)) = (decide ((xs.length : Int) = n) && xs.all (within 0 (c - 1)))
  rw [decide_eq_true hn, Bool.true_and, all_range]
section
variable {P : Program} {w : World} {K : PySem.W.Frag} {mg : Str → Option Value} {base : Heap} {f : Addr} {fd : FuncData}
theorem ok_is_integer (B : Bi mg) (F : FnP K "is_integer" s_is_integer f fd) : FnOk P w K mg base CX0 1 f fd ["value"] (sp_is_integer K) := by
  have nd := sc_is_integer.nd
  refine okN F sc_is_integer (fun vs H Q E h => by obtain ⟨x, rfl, _⟩ := h; rfl) (fun cdv A outer s H vs Q E hr h => ⟨_, (pss_one (ps_ret (pe_and (pe_callB (kIsi K) rfl B.isinstance bt_isinstance (pa_cons (pv 0) (pa_cons (pe_bltn (v := .ty "int") rfl B.int bt_int rfl) pa_nil))) (pe_one (pe_not (pe_callB (kIsi K) rfl B.isinstance bt_isinstance (pa_cons (pv 0) (pa_cons (pe_bltn (v := .ty "bool") rfl B.bool bt_bool rfl) pa_nil)))))))), ?_⟩)
  obtain ⟨x, rfl, ⟨t, b1, b2, ty, k1, k2, e⟩, q⟩ := h
  refine ⟨_, rfl, _, _, t, _, b1, rfl, .ty _, ty, k1, _, rfl, ?_⟩
  cases b1 with
  | false =>
    rw [← e] at q
    exact iteF q
  | true =>
    refine iteT ⟨_, rfl, _, _, t, _, b2, rfl, .ty _, ty, k2, _, rfl, ?_⟩
    rw [← e] at q
    exact q
theorem ok_is_within (c_is_integer : Cal P w K mg base CX0 1 "is_integer" ["value"] [] (sp_is_integer K)) (F : FnP K "is_within" s_is_within f fd) : FnOk P w K mg base CX0 2 f fd ["value", "least", "most"] (sp_is_within K) := by
  have nd := sc_is_within.nd
  refine okN F sc_is_within (fun vs H Q E h => by obtain ⟨x, lo, hi, rfl, _⟩ := h; rfl) (fun cdv A outer s H vs Q E hr h => ?_)
  have hr_is_integer := hr
  refine ⟨_, (pss_cons (ps_if (pt_not (pt_val (e_call c_is_integer hr_is_integer pass0 (pa_cons (pv 0) pa_nil)))) (pss_one (ps_ret pe_bl)) pss_nil)
      (pss_one (ps_ret (pe_and (pe_or (pe_cmpR op_isN (pv 1) pe_non (nomark _)) (pe_one (pe_cmpR op_le (pv 1) (pv 0) (nomark _)))) (pe_one (pe_or (pe_cmpR op_isN (pv 2) pe_non (nomark _)) (pe_one (pe_cmpR op_le (pv 0) (pv 2) (nomark _))))))))), ?_⟩
  obtain ⟨x, lo, hi, rfl, ty, q⟩ := h
  refine ⟨_, rfl, x, rfl, ty, _, rfl, ?_⟩
  cases e : isI x with
  | false =>
    refine iteT ?_
    have z : within lo hi x = false := by
      cases x <;> first | rfl | (simp [isI] at e)
    rw [z] at q
    exact q
  | true =>
    refine iteF ?_
    cases x with
    | int i =>
      refine ⟨_, rfl, rfl, _, rfl, iteF ⟨_, rfl, _, rfl, _, _, rfl, rfl, _, rfl, ?_⟩⟩
      have q : Q (.bl (decide (lo ≤ i) && decide (i ≤ hi))) H := q
      by_cases h1 : lo ≤ i
      · rw [decide_eq_true h1] at q ⊢
        exact iteT ⟨_, rfl, rfl, _, rfl, iteF ⟨_, rfl, _, rfl, _, _, rfl, rfl, q⟩⟩
      · rw [decide_eq_false h1] at q ⊢
        exact iteF q
    | _ => simp [isI] at e
theorem ok_is_clock (c_is_integer : Cal P w K mg base CX0 1 "is_integer" ["value"] [] (sp_is_integer K)) (T : Clk K mg) (F : FnP K "is_clock" s_is_clock f fd) : FnOk P w K mg base CX0 2 f fd ["value"] (sp_is_clock K) := by
  have nd := sc_is_clock.nd
  obtain ⟨ac, g_CLOCKS, kc⟩ := T.clk
  have r_CLOCKS : RelV (.ref ac) (.ref ac) := rfl
  refine okN F sc_is_clock (fun vs H Q E h => by obtain ⟨x, rfl, _⟩ := h; rfl) (fun cdv A outer s H vs Q E hr h => ?_)
  have hr_is_integer := hr
  refine ⟨_, (pss_one (ps_ret (pe_and (e_call c_is_integer hr_is_integer pass0 (pa_cons (pv 0) pa_nil)) (pe_one (pe_cmpR (kIn K) (pv 0) (pe_glob rfl g_CLOCKS r_CLOCKS) rfl))))), ?_⟩
  obtain ⟨x, rfl, ty, q⟩ := h
  refine ⟨_, rfl, x, rfl, ty, _, rfl, ?_⟩
  cases e : isI x with
  | false =>
    refine iteF ?_
    have z : clockB x = false := by
      cases x <;> first | rfl | (simp [isI] at e)
    rw [z] at q
    exact q
  | true =>
    refine iteT ?_
    cases x with
    | int i =>
      refine ⟨_, rfl, ac, clocks.map V.int, rfl, .inr (kc H), rfl, by decide, ?_⟩
      have z : inV (.int i) (clocks.map V.int) = clockB (.int i) := by
        unfold inV clockB
        rw [List.any_map]
        refine congrArg (List.any clocks) ?_
        funext c
        show eqV (.int c) (.int i) = decide (c = i)
        simp [eqV, Bool.beq_eq_decide_eq]
      show Q (.bl (inV (.int i) (clocks.map V.int))) H
      rw [z]
      exact q
    | _ => simp [isI] at e
theorem ok_is_row (B : Bi mg) (c_is_within : Cal P w K mg base CX0 2 "is_within" ["value", "least", "most"] [] (sp_is_within K)) (F : FnP K "is_row" s_is_row f fd) : FnOk P w K mg base CX0 3 f fd ["value", "clock", "size"] (sp_is_row K) := by
  have nd := sc_is_row.nd
  refine okN F sc_is_row (fun vs H Q E h => by obtain ⟨x, c, n, r, rfl, _⟩ := h; rfl) (fun cdv A outer s H vs Q E hr h => ?_)
  have hr_is_within := hr
  refine ⟨_, (pss_cons (ps_if (PW.pt (pw_or (pt_not (pt_val (pe_callB (kIsiT K) rfl B.isinstance bt_isinstance (pa_cons (pv 0) (pa_cons (pe_tup (pa_cons (pe_bltn (v := .ty "list") rfl B.list bt_list rfl) (pa_cons (pe_bltn (v := .ty "tuple") rfl B.tuple bt_tuple rfl) pa_nil))) pa_nil))))) (pw_or1 (pt_cmpR op_ne (pe_callB (kLen K) rfl B.len bt_len (pa_cons (pv 0) pa_nil)) (pv 2) (nomark _))))) (pss_one (ps_ret pe_bl)) pss_nil)
      (pss_one (ps_ret (pe_callB (kAll K rfl) rfl B.all bt_all (pa_cons (pe_lc (own := [("each", 3)]) rfl nd (pi_seq (pv 0)) (blkOk_by (N := N_is_row) (sc := (defScope s_is_row)) (by decide +kernel)) (fun _ _ _ _ _ => by exact (pgn 3 nd)) (fun _ _ _ _ _ => by exact pts_nil) (fun _ _ _ _ _ => by exact (e_call c_is_within hr_is_within pass0 (pa_cons (pv 3) (pa_cons pe_int (pa_cons (pe_op op_sub (pv 1) pe_int) pa_nil)))))) pa_nil))))), ?_⟩
  obtain ⟨x, c, n, r, rfl, sk, hk, q⟩ := h
  refine ⟨_, rfl, (by show 2 ≤ sizeLine; decide), fun p hp => ?_⟩
  have s1 : Same H (upd H p (.tup [.ty "list", .ty "tuple"])) := same_upd hp
  cases sk with
  | no ty k1 k2 =>
    exact ⟨_, p, _, _, [.type "list", .type "tuple"], false, rfl, upd_same, .cons (.ty _) (.cons (.ty _) .nil), tyx_same s1 ty, kitAny_cons k1 (fun _ => kitAny_cons k2 (fun _ => kitAny_nil) (fun z => nomatch z)) (fun z => nomatch z), _, rfl, iteT (iteT (q _ s1))⟩
  | @lst a xs hx =>
    obtain ⟨hl, ht⟩ := hk xs rfl
    refine ⟨_, p, _, _, [.type "list", .type "tuple"], true, rfl, upd_same, .cons (.ty _) (.cons (.ty _) .nil), tyx_same s1 (tyx_lst hx), kitAny_cons (kit_ty (by decide +kernel : kitB "list" "list" = some true)) (fun z => nomatch z) (fun _ => rfl), _, rfl, iteF ⟨_, rfl, a, xs, rfl, .inl (s1.seq hx), _, rfl, rfl, _, rfl, ?_⟩⟩
    by_cases hn : (xs.length : Int) = n
    · have e1 : (!decide (V.int ↑xs.length = V.int n)) = false := by rw [hn]; simp
      rw [e1]
      refine iteF ⟨_, rfl, a, rfl, xs, .inl (s1.seq hx), fun J G wk hG D hD => ?_⟩
      refine lc_val wk (fun i => .bl (within 0 (c - 1) ((xs[i]?).getD .non))) hD hl hG (fun i x H' H'' N hi s2 _ y k => ?_) (fun H' s2 e => ?_)
      · obtain ⟨rfl, hxi⟩ := y
        refine ⟨rfl, _, rfl, _, rfl, _, _, rfl, rfl, x, 0, c - 1, rfl, ht _ _ (s1.trans s2) (List.mem_of_getElem? hxi), ?_⟩
        have z := k H'' (Same.refl _)
        rw [hxi] at z
        exact z
      · refine ⟨D, (List.range xs.length).map fun i => within 0 (c - 1) ((xs[i]?).getD .non), rfl, .of (by rw [e, List.map_map]; rfl), ?_⟩
        rw [rowB_all hn]
        exact q _ (s1.trans s2)
    · have e1 : (!decide (V.int ↑xs.length = V.int n)) = true := by simp [hn]
      rw [e1]
      refine iteT ?_
      have z : rowB c n (some xs) = false := by simp [rowB, hn]
      have q1 := q _ s1
      rw [z] at q1
      exact q1
  | @tup a xs hx =>
    obtain ⟨hl, ht⟩ := hk xs rfl
    refine ⟨_, p, _, _, [.type "list", .type "tuple"], true, rfl, upd_same, .cons (.ty _) (.cons (.ty _) .nil), tyx_same s1 (tyx_tup hx), kitAny_cons (kit_ty (by decide +kernel : kitB "tuple" "list" = some false)) (fun _ => kitAny_cons (kit_ty (by decide +kernel : kitB "tuple" "tuple" = some true)) (fun z => nomatch z) (fun _ => rfl)) (fun _ => rfl), _, rfl, iteF ⟨_, rfl, a, xs, rfl, .inr (same_tup s1 hx), _, rfl, rfl, _, rfl, ?_⟩⟩
    by_cases hn : (xs.length : Int) = n
    · have e1 : (!decide (V.int ↑xs.length = V.int n)) = false := by rw [hn]; simp
      rw [e1]
      refine iteF ⟨_, rfl, a, rfl, xs, .inr (same_tup s1 hx), fun J G wk hG D hD => ?_⟩
      refine lc_val wk (fun i => .bl (within 0 (c - 1) ((xs[i]?).getD .non))) hD hl hG (fun i x H' H'' N hi s2 _ y k => ?_) (fun H' s2 e => ?_)
      · obtain ⟨rfl, hxi⟩ := y
        refine ⟨rfl, _, rfl, _, rfl, _, _, rfl, rfl, x, 0, c - 1, rfl, ht _ _ (s1.trans s2) (List.mem_of_getElem? hxi), ?_⟩
        have z := k H'' (Same.refl _)
        rw [hxi] at z
        exact z
      · refine ⟨D, (List.range xs.length).map fun i => within 0 (c - 1) ((xs[i]?).getD .non), rfl, .of (by rw [e, List.map_map]; rfl), ?_⟩
        rw [rowB_all hn]
        exact q _ (s1.trans s2)
    · have e1 : (!decide (V.int ↑xs.length = V.int n)) = true := by simp [hn]
      rw [e1]
      refine iteT ?_
      have z : rowB c n (some xs) = false := by simp [rowB, hn]
      have q1 := q _ s1
      rw [z] at q1
      exact q1
end
end K61

set_option Elab.async false
set_option linter.all false
set_option maxRecDepth 100000
set_option maxHeartbeats 4000000
/-! The walks: clocks and spaces up to least_in. -/
namespace K61
open PySem PySem.Spec PyProof.Rows L2
theorem map_range_getD {α β : Type} (l : List α) (d : α) (f : α → β) : (List.range l.length).map (fun i => f (l.getD i d)) = l.map f := by
  apply List.ext_getElem?
  intro i
  rw [List.getElem?_map, List.getElem?_map]
  by_cases h : i < l.length
  · rw [List.getElem?_range h, Option.map_some, List.getD_eq_getElem?_getD, List.getElem?_eq_getElem h]
    rfl
  · rw [List.getElem?_eq_none (by simpa using h), List.getElem?_eq_none (by omega)]
    rfl
theorem zip_range_getD {β : Type} (a b : List Int) (g : Int → Int → β) : (List.range (min a.length b.length)).map (fun i => g (a.getD i 0) (b.getD i 0)) = List.zipWith g a b := by
  apply List.ext_getElem?
  intro i
  rw [List.getElem?_map]
  by_cases h : i < min a.length b.length
  · have h1 : i < a.length := by omega
    have h2 : i < b.length := by omega
    rw [List.getElem?_range h, Option.map_some, List.getElem?_zipWith, List.getD_eq_getElem?_getD, List.getD_eq_getElem?_getD, List.getElem?_eq_getElem h1, List.getElem?_eq_getElem h2]
    rfl
  · rw [List.getElem?_eq_none (by simpa using h), List.getElem?_eq_none (by rw [List.length_zipWith]; omega)]
    rfl
theorem getD_of {l : List Int} {i : Nat} {n : Int} (h : l[i]? = some n) : l.getD i 0 = n := by
  rw [List.getD_eq_getElem?_getD, h]
  rfl
theorem clr_eq (c : Int) (r b : List Int) (i : Nat) : clr c r b i = if r.getD i 0 = 0 then r else List.zipWith (fun e l => (e - r.getD i 0 * l) % c) r b := rfl
abbrev dP (p : Nat × List Int) : PyData := .tuple [.int p.1, dT p.2]
abbrev dF (F : Form) : PyData := .list (F.map dP)
theorem dp_P' {K : PySem.W.Frag} {H : Hp} {v : V} {p : Nat × List Int} (h : Dp K H v (dP p)) : ∃ a y, v = .ref a ∧ SqT K H a [.int p.1, y] ∧ Dp K H y (dT p.2) := by
  obtain ⟨a, vs, rfl, h1, h2⟩ := dp_tup' h
  cases h2 with
  | cons x r =>
    cases r with
    | cons y r =>
      cases r
      cases x
      exact ⟨a, _, rfl, h1, y⟩
theorem dp_P {K : PySem.W.Frag} {H : Hp} {a : Addr} {y : V} {l : Nat} {r : List Int} (h : SqT K H a [.int l, y]) (hy : Dp K H y (dT r)) : Dp K H (.ref a) (dP (l, r)) := .tup h (.cons (.int _) (.cons hy .nil))
theorem pair_get {K : PySem.W.Frag} {H : Hp} {vs : List V} {F : Form} {i : Nat} {v : V} (h : DpAll K H vs (F.map dP)) (e : vs[i]? = some v) : ∃ p, F[i]? = some p ∧ Dp K H v (dP p) := by
  obtain ⟨d, hd, q⟩ := dpa_get h e
  rw [List.getElem?_map] at hd
  cases z : F[i]? with
  | none =>
    rw [z] at hd
    cases hd
  | some r =>
    rw [z] at hd
    cases hd
    exact ⟨r, rfl, q⟩
def leadV : Option Nat → V
  | none => .non
  | some l => .int l
theorem take_snoc {α : Type} {l : List α} {i : Nat} {x : α} (h : l[i]? = some x) : l.take (i + 1) = l.take i ++ [x] := by
  rw [List.take_add_one, h]
  rfl
abbrev s_inverse_in : Stmt := top 20
abbrev N_inverse_in : List Str := ["clock", "number", "found"]
theorem sc_inverse_in : FnScope N_inverse_in ["clock", "number"] (defScope s_inverse_in) := ⟨rfl, rfl, rfl, by decide +kernel, rfl, by decide +kernel, by decide +kernel⟩
abbrev s_times_in : Stmt := top 21
abbrev N_times_in : List Str := ["clock", "number", "row", "each"]
theorem sc_times_in : FnScope N_times_in ["clock", "number", "row"] (defScope s_times_in) := ⟨rfl, rfl, rfl, by decide +kernel, rfl, by decide +kernel, by decide +kernel⟩
abbrev s_lead_of : Stmt := top 30
abbrev N_lead_of : List Str := ["row", "at", "number"]
theorem sc_lead_of : FnScope N_lead_of ["row"] (defScope s_lead_of) := ⟨rfl, rfl, rfl, by decide +kernel, rfl, by decide +kernel, by decide +kernel⟩
abbrev s_cleared : Stmt := top 31
abbrev N_cleared : List Str := ["clock", "row", "by", "at", "many", "each", "less"]
theorem sc_cleared : FnScope N_cleared ["clock", "row", "by", "at"] (defScope s_cleared) := ⟨rfl, rfl, rfl, by decide +kernel, rfl, by decide +kernel, by decide +kernel⟩
abbrev s_cleared_by : Stmt := top 32
abbrev N_cleared_by : List Str := ["clock", "row", "form", "lead", "each"]
theorem sc_cleared_by : FnScope N_cleared_by ["clock", "row", "form"] (defScope s_cleared_by) := ⟨rfl, rfl, rfl, by decide +kernel, rfl, by decide +kernel, by decide +kernel⟩
abbrev s_with_row : Stmt := top 33
abbrev N_with_row : List Str := ["clock", "form", "row", "left", "lead", "new", "at", "each"]
theorem sc_with_row : FnScope N_with_row ["clock", "form", "row"] (defScope s_with_row) := ⟨rfl, rfl, rfl, by decide +kernel, rfl, by decide +kernel, by decide +kernel⟩
abbrev s_least_in : Stmt := top 34
abbrev N_least_in : List Str := ["clock", "rows", "form", "row", "_"]
theorem sc_least_in : FnScope N_least_in ["clock", "rows"] (defScope s_least_in) := ⟨rfl, rfl, rfl, by decide +kernel, rfl, by decide +kernel, by decide +kernel⟩
def sp_inverse_in : Sp := fun vs H Q _ => ∃ c n m, vs = [.int c, .int n] ∧ Clock c ∧ (0 ≤ n ∧ n < c) ∧ IsInv c n m ∧ Q (.int m) H
def sp_times_in (K : PySem.W.Frag) : Sp := fun vs H Q _ => ∃ c n a r, vs = [.int c, .int n, .ref a] ∧ SqT K H a (r.map V.int) ∧ Clock c ∧ (0 ≤ n ∧ n < c) ∧ r.length ≤ sizeLine ∧ ∀ H' v, Same H H' → Dp K H' v (dT (timesOf c n r)) → Q v H'
def sp_lead_of (K : PySem.W.Frag) : Sp := fun vs H Q _ => ∃ a r, vs = [.ref a] ∧ SqT K H a (r.map V.int) ∧ ∀ H', Same H H' → Q (leadV (leadOf r)) H'
def sp_cleared (K : PySem.W.Frag) : Sp := fun vs H Q _ => ∃ c n a r b t i, vs = [.int c, .ref a, .ref b, .int (i : Nat)] ∧ SqT K H a (r.map V.int) ∧ SqT K H b (t.map V.int) ∧ Clock c ∧ RowOk c n r ∧ t.length = n ∧ i < n ∧ n ≤ sizeLine ∧
  ∀ H' v, Same H H' → Dp K H' v (dT (clr c r t i)) → Q v H'
def sp_cleared_by (K : PySem.W.Frag) : Sp := fun vs H Q _ => ∃ c n x r y F, vs = [.int c, x, y] ∧ Dp K H x (dT r) ∧ Dp K H y (dF F) ∧ Clock c ∧ RowOk c n r ∧ (∀ p ∈ F, p.2.length = n ∧ p.1 < n) ∧ n ≤ sizeLine ∧
  ∀ H' v, Same H H' → Dp K H' v (dT (clrBy c r F)) → Q v H'
section
variable {P : Program} {w : World} {K : PySem.W.Frag} {mg : Str → Option Value} {base : Heap} {f : Addr} {fd : FuncData}
theorem ok_inverse_in (F : FnP K "inverse_in" s_inverse_in f fd) : FnOk P w K mg base CX0 1 f fd ["clock", "number"] sp_inverse_in := by
  have nd := sc_inverse_in.nd
  refine okN F sc_inverse_in (fun vs H Q E h => by obtain ⟨c, n, m, rfl, _⟩ := h; rfl) (fun cdv A outer s H vs Q E hr h => ⟨_, (pss_cons (ps_asg pe_int (pgn 2 nd))
      (pss_cons (ps_while PassesOwn.never (pt_cmpR op_ne (pe_op op_mod (pe_op op_mul (pv 1) (pv 2)) (pv 0)) pe_int (nomark _))
      (pss_one (ps_asg (pe_op op_add (pv 2) pe_int) (pgn 2 nd))))
      (pss_one (ps_ret (pv 2))))), ?_⟩)
  obtain ⟨c, n, m, rfl, hc, hn, ⟨m0, mc, m1, ml⟩, q⟩ := h
  have c0 := hc.pos
  have c1 := hc.le
  refine while_by (fun σ H' => H' = H ∧ ∃ j : Int, σ = [some (.int c), some (.int n), some (.int j)] ∧ 0 < j ∧ j ≤ m) (fun σ _ => match σ with | [_, _, some (.int j)] => (m - j).toNat | _ => 0) ⟨rfl, 1, rfl, by omega, by omega⟩ ?_ ?_
  · rintro σ H' ⟨rfl, j, rfl, j0, jm⟩
    refine ⟨_, rfl, _, rfl, n, j, rfl, rfl, .inl ⟨by omega, by omega⟩, _, rfl, _, _, rfl, rfl, c0, rfl, _, rfl, ?_⟩
    by_cases e : n * j % c = 1
    · have e1 : (!decide (V.int (n * j % c) = V.int 1)) = false := by rw [e]; simp
      rw [e1]
      refine iteF ⟨_, rfl, ?_⟩
      have z : j = m := by
        by_cases hj : j < m
        · exact absurd e (ml j j0 hj)
        · omega
      rw [z]
      exact q
    · have e1 : (!decide (V.int (n * j % c) = V.int 1)) = true := by simp [e]
      rw [e1]
      refine iteT ⟨_, rfl, _, _, rfl, rfl, ⟨rfl, j + 1, rfl, by omega, ?_⟩, ?_⟩
      · by_cases hj : j = m
        · rw [hj] at e
          exact absurd m1 e
        · omega
      · show (m - (j + 1)).toNat < (m - j).toNat
        have : j ≠ m := fun z => e (by rw [z]; exact m1)
        omega
  · intro σ H' Q1 Q2 hq h'
    obtain ⟨v1, e1, v2, e2, i, j, x1, x2, hm, v3, e3, i3, j3, x3, x4, c3, hs, k, hk, z⟩ := h'
    exact ⟨v1, e1, v2, e2, i, j, x1, x2, hm, v3, e3, i3, j3, x3, x4, c3, hs, k, hk, hq _ _ z⟩
theorem ok_times_in (B : Bi mg) (F : FnP K "times_in" s_times_in f fd) : FnOk P w K mg base CX0 1 f fd ["clock", "number", "row"] (sp_times_in K) := by
  have nd := sc_times_in.nd
  refine okN F sc_times_in (fun vs H Q E h => by obtain ⟨c, n, a, r, rfl, _⟩ := h; rfl) (fun cdv A outer s H vs Q E hr h => ⟨_, (pss_one (ps_ret (pe_callTy (kTup K) rfl B.tuple bt_tuple (pa_cons (pe_lc (own := [("each", 3)]) rfl nd (pi_tup (pv 2)) (blkOk_by (N := N_times_in) (sc := (defScope s_times_in)) (by decide +kernel)) (fun _ _ _ _ _ => by exact (pgn 3 nd)) (fun _ _ _ _ _ => by exact pts_nil) (fun _ _ _ _ _ => by exact (pe_op op_mod (pe_op op_mul (pv 1) (pv 3)) (pv 0)))) pa_nil)))), ?_⟩)
  obtain ⟨c, n, a, r, rfl, ha, hc, hn, hl, q⟩ := h
  have c0 := hc.pos
  have c1 := hc.le
  refine ⟨_, rfl, a, rfl, ⟨_, ha⟩, fun D hD => ?_⟩
  refine lc_val (walk_tup (xs := r.map V.int)) (fun i => .int (n * r.getD i 0 % c)) hD (by simpa using hl) (fun H' z => same_tup z ha) (fun i x H1 H2 N hi s2 _ y k => ?_) (fun H' s2 e => ?_)
  · obtain ⟨rfl, hx⟩ := y
    obtain ⟨m, hm, rfl⟩ := int_get hx
    have z := k H2 (Same.refl _)
    rw [getD_of hm] at z
    exact ⟨rfl, _, rfl, _, rfl, n, m, rfl, rfl, .inl ⟨by omega, by omega⟩, _, rfl, _, _, rfl, rfl, c0, z⟩
  · refine ⟨D, _, rfl, .inl ⟨.of e, fun p hp => q _ _ (s2.trans (same_upd hp)) ?_⟩⟩
    have z := map_range_getD r 0 fun x => V.int (n * x % c)
    rw [List.length_map, z]
    refine dp_T (.of ?_)
    rw [upd_same]
    unfold timesOf
    rw [List.map_map]
    rfl
theorem ok_lead_of (B : Bi mg) (F : FnP K "lead_of" s_lead_of f fd) : FnOk P w K mg base CX0 1 f fd ["row"] (sp_lead_of K) := by
  have nd := sc_lead_of.nd
  refine okN F sc_lead_of (fun vs H Q E h => by obtain ⟨a, r, rfl, _⟩ := h; rfl) (fun cdv A outer s H vs Q E hr h => ⟨_, (pss_cons (ps_for PassesOwn.never rfl (pi_enumT rfl B.enumerate (pa_cons (pv 0) pa_nil)) (pg_tup rfl (pgs_cons (pgn 1 nd) (pgs_cons (pgn 2 nd) pgs_nil)))
      (pss_one (ps_if (pt_cmpR op_ne (pv 2) pe_int (nomark _)) (pss_one (ps_ret (pv 1))) pss_nil)))
      (pss_one (ps_ret pe_non))), ?_⟩)
  obtain ⟨a, r, rfl, ha, q⟩ := h
  refine ⟨_, rfl, a, _, rfl, ha, ?_⟩
  refine for_it (walk_enumT (xs := r.map V.int)) (fun i σ H' => Same H H' ∧ (∃ x y, σ = [some (.ref a), x, y]) ∧ ∀ j, j < i → r.getD j 0 = 0) ⟨Same.refl _, ⟨_, _, rfl⟩, fun j hj => by omega⟩ (fun i σ H' _ p => same_tup p.1 ha) ?_ ?_
  · rintro i x σ H1 H2 hi ⟨s1, ⟨x1, y1, rfl⟩, hz⟩ ⟨T, u, v, rfl, hT, rfl, e1, e2⟩
    obtain ⟨m, hm, rfl⟩ := int_get e2
    cases e1
    refine ⟨T, _, rfl, .of upd_same, rfl, _, _, rfl, _, _, rfl, rfl, ?_⟩
    have s2 : Same H (upd H1 T (.tup [.int (i : Nat), .int m])) := s1.trans (same_upd hT)
    refine ⟨_, rfl, rfl, _, rfl, ?_⟩
    by_cases e : m = 0
    · have e3 : (!decide (V.int m = V.int 0)) = false := by rw [e]; simp
      rw [e3]
      refine iteF ⟨s2, ⟨_, _, rfl⟩, fun j hj => ?_⟩
      by_cases hji : j = i
      · rw [hji, getD_of hm, e]
      · exact hz j (by omega)
    · have e3 : (!decide (V.int m = V.int 0)) = true := by simp [e]
      rw [e3]
      refine iteT ⟨_, rfl, ?_⟩
      have z : leadOf r = some i := leadOf_at (by simpa using hi) (by rw [getD_of hm]; exact e) hz
      have q1 := q _ s2
      rw [z] at q1
      exact q1
  · rintro σ H1 ⟨s1, _, hz⟩
    rw [List.length_map] at hz
    have z : leadOf r = none := by
      cases e : leadOf r with
      | none => rfl
      | some l =>
        obtain ⟨h1, h2, _⟩ := leadOf_some e
        exact absurd (hz l h1) h2
    have q1 := q _ s1
    rw [z] at q1
    exact q1
theorem ok_cleared (B : Bi mg) (F : FnP K "cleared" s_cleared f fd) : FnOk P w K mg base CX0 1 f fd ["clock", "row", "by", "at"] (sp_cleared K) := by
  have nd := sc_cleared.nd
  refine okN F sc_cleared (fun vs H Q E h => by obtain ⟨c, n, a, r, b, t, i, rfl, _⟩ := h; rfl) (fun cdv A outer s H vs Q E hr h => ⟨_, (pss_cons (ps_asg (pe_ix (kIxT K) (pv 1) (pv 3) (fun _ _ => rfl)) (pgn 4 nd))
      (pss_one (ps_ret (pe_ifExp (pt_cmpR op_eq (pv 4) pe_int (nomark _)) (pv 1) (pe_callTy (kTup K) rfl B.tuple bt_tuple (pa_cons (pe_lc (g := gTup K 2 (gCons (gName 5) (gCons (gName 6) gNil))) (own := [("each", 5), ("less", 6)]) rfl nd (RZ.pi_zipA rfl B.zip (pa_cons (pv 1) (pa_cons (pv 2) pa_nil))) (blkOk_by (N := N_cleared) (sc := (defScope s_cleared)) (by decide +kernel)) (fun _ _ _ _ _ => by exact (pg_tup rfl (pgs_cons (pgn 5 nd) (pgs_cons (pgn 6 nd) pgs_nil)))) (fun _ _ _ _ _ => by exact pts_nil) (fun _ _ _ _ _ => by exact (pe_op op_mod (pe_op op_sub (pv 5) (pe_op op_mul (pv 4) (pv 6))) (pv 0)))) pa_nil)))))), ?_⟩)
  obtain ⟨c, n, a, r, b, t, i, rfl, ha, hb, hc, hrow, ht, hi, hn, q⟩ := h
  have c0 := hc.pos
  have c1 := hc.le
  obtain ⟨b1, b2⟩ := getD_row c0 hrow i
  have hm : r[i]? = some (r.getD i 0) := by
    rw [List.getD_eq_getElem?_getD, List.getElem?_eq_getElem (by rw [hrow.1]; exact hi)]
    rfl
  have hm' : (r.map V.int)[i]? = some (.int (r.getD i 0)) := by rw [List.getElem?_map, hm]; rfl
  refine ⟨_, rfl, _, rfl, a, _, _, _, rfl, rfl, ha, atI_nat hm', ?_⟩
  generalize hmany : r.getD i 0 = m at b1 b2
  refine ⟨_, rfl, rfl, _, rfl, ?_⟩
  have ce := clr_eq c r t i
  rw [hmany] at ce
  by_cases e : m = 0
  · have e3 : decide (V.int m = V.int 0) = true := by rw [e]; simp
    rw [e3]
    refine iteT ⟨_, rfl, q _ _ (Same.refl _) ?_⟩
    rw [ce, if_pos e]
    exact dp_T ha
  · have e3 : decide (V.int m = V.int 0) = false := by simp [e]
    rw [e3]
    refine iteF ⟨_, rfl, _, rfl, a, b, _, _, rfl, .inr ⟨ha, hb, fun D hD => ?_⟩⟩
    refine lc_val (walk_zipT rfl) (fun j => .int ((r.getD j 0 - m * t.getD j 0) % c)) hD (by simp; omega) (fun H' z => ⟨same_tup z ha, same_tup z hb⟩) (fun j x H1 H2 N hj s2 _ y k => ?_) (fun H' s2 e4 => ?_)
    · obtain ⟨T, u, v, rfl, hT, rfl, e1, e2⟩ := y
      obtain ⟨x1, hx1, rfl⟩ := int_get e1
      obtain ⟨x2, hx2, rfl⟩ := int_get e2
      have z := k _ (same_upd (o := .tup [.int x1, .int x2]) hT)
      rw [getD_of hx1, getD_of hx2] at z
      exact ⟨T, _, rfl, .of upd_same, rfl, _, _, rfl, _, _, rfl, rfl, rfl, _, rfl, _, rfl, _, rfl, m, x2, rfl, rfl, .inl ⟨by omega, by omega⟩, _, _, rfl, rfl, _, rfl, _, _, rfl, rfl, c0, z⟩
    · refine ⟨D, _, rfl, .inl ⟨.of e4, fun p hp => q _ _ (s2.trans (same_upd hp)) ?_⟩⟩
      rw [ce, if_neg e]
      refine dp_T (.of ?_)
      rw [upd_same]
      have z := zip_range_getD r t fun x y => V.int ((x - m * y) % c)
      rw [List.length_map, List.length_map, z, List.map_zipWith]
theorem ok_cleared_by (c_cleared : Cal P w K mg base CX0 1 "cleared" ["clock", "row", "by", "at"] [] (sp_cleared K)) (F : FnP K "cleared_by" s_cleared_by f fd) : FnOk P w K mg base CX0 2 f fd ["clock", "row", "form"] (sp_cleared_by K) := by
  have nd := sc_cleared_by.nd
  refine okN F sc_cleared_by (fun vs H Q E h => by obtain ⟨c, n, x, r, y, F, rfl, _⟩ := h; rfl) (fun cdv A outer s H vs Q E hr h => ?_)
  have hr_cleared := hr
  refine ⟨_, (pss_cons (ps_for PassesOwn.never rfl (pi_list (pv 2)) (pg_tup rfl (pgs_cons (pgn 3 nd) (pgs_cons (pgn 4 nd) pgs_nil)))
      (pss_one (ps_asg (e_call c_cleared hr_cleared pass0 (pa_cons (pv 0) (pa_cons (pv 1) (pa_cons (pv 4) (pa_cons (pv 3) pa_nil))))) (pgn 1 nd))))
      (pss_one (ps_ret (pv 1)))), ?_⟩
  obtain ⟨c, n, x, r, y, F, rfl, hx, hy, hc, hrow, hF, hn, q⟩ := h
  obtain ⟨b, vs, rfl, hb, hvs⟩ := dp_lst' hy
  have c0 := hc.pos
  refine ⟨_, rfl, b, rfl, ⟨_, hb⟩, ?_⟩
  have el : vs.length = F.length := by rw [dpa_length hvs, List.length_map]
  refine for_it (walk_list (xs := vs)) (fun i σ H' => Same H H' ∧ ∃ v x1 x2, σ = [some (.int c), some v, some (.ref b), x1, x2] ∧ Dp K H' v (dT (clrBy c r (F.take i)))) ⟨Same.refl _, x, none, none, rfl, hx⟩ (fun i σ H' _ p => p.1.seq hb) ?_ ?_
  · rintro i u σ H1 H2 hi ⟨s1, v, x1, x2, rfl, hv⟩ ⟨rfl, hu⟩
    obtain ⟨p, hp, hd⟩ := pair_get (dpa_same s1 hvs) hu
    obtain ⟨a, y, rfl, ha, hy2⟩ := dp_P' hd
    obtain ⟨a1, rfl, ha1⟩ := dp_T' hv
    obtain ⟨a2, rfl, ha2⟩ := dp_T' hy2
    have hF1 := hF p (List.mem_of_getElem? hp)
    have okr : RowOk c n (clrBy c r (F.take i)) := clrBy_ok c0 hrow fun q hq => (hF q (List.mem_of_mem_take hq)).1
    refine ⟨a, _, rfl, ha, rfl, _, _, rfl, _, _, rfl, rfl, ?_⟩
    refine ⟨_, rfl, _, rfl, _, rfl, _, rfl, c, n, a1, _, a2, _, p.1, rfl, ha1, ha2, hc, okr, hF1.1, hF1.2, hn, fun H3 v s3 hv3 => ⟨s1.trans s3, v, _, _, rfl, ?_⟩⟩
    rw [take_snoc hp]
    unfold clrBy
    rw [List.foldl_append]
    exact hv3
  · rintro σ H1 ⟨s1, v, x1, x2, rfl, hv⟩
    rw [el, List.take_length] at hv
    exact ⟨_, rfl, q _ _ s1 hv⟩
end
end K61

set_option Elab.async false
set_option linter.all false
set_option maxRecDepth 100000
set_option maxHeartbeats 4000000
/-! The walks: with_row, least_in. -/
namespace K61
open PySem PySem.Spec PyProof.Rows L2
/-- at a a pair of its lead and its row -/
def PairAt (K : PySem.W.Frag) (H : Hp) (a : Addr) (p : Nat × List Int) : Prop := ∃ v, H a = some (.tup [.int p.1, v]) ∧ Dp K H v (dT p.2)
theorem PairAt.same {K : PySem.W.Frag} {H H' : Hp} {a : Addr} {p : Nat × List Int} (s : Same H H') (h : PairAt K H a p) : PairAt K H' a p := by
  obtain ⟨v, e, d⟩ := h
  exact ⟨v, s _ _ e, dp_same s d⟩
theorem paired_perm {α β : Type} {R : α → β → Prop} {xs ys : List α} (h : ys.Perm xs) : ∀ {G : List β}, Paired R xs G → ∃ G', G'.Perm G ∧ Paired R ys G' := by
  have main : ∀ {a b : List α}, a.Perm b → ∀ {G : List β}, Paired R a G → ∃ G', G.Perm G' ∧ Paired R b G' := by
    intro a b h
    induction h with
    | nil => exact fun {G} q => ⟨G, .refl _, q⟩
    | cons x _ ih =>
      intro G q
      cases q with
      | cons r t =>
        obtain ⟨G', p, q⟩ := ih t
        exact ⟨_, p.cons _, .cons r q⟩
    | swap x y l =>
      intro G q
      cases q with
      | cons r t =>
        cases t with
        | cons r2 t => exact ⟨_, List.Perm.swap .., .cons r2 (.cons r t)⟩
    | trans _ _ ih1 ih2 =>
      intro G q
      obtain ⟨G1, p1, q1⟩ := ih1 q
      obtain ⟨G2, p2, q2⟩ := ih2 q1
      exact ⟨G2, p1.trans p2, q2⟩
  intro G q
  obtain ⟨G', p, q'⟩ := main h.symm q
  exact ⟨G', p.symm, q'⟩
theorem paired_app {α β : Type} {R : α → β → Prop} : ∀ {xs ys : List α} {as bs : List β}, Paired R xs as → Paired R ys bs → Paired R (xs ++ ys) (as ++ bs)
  | _, _, _, _, .nil, q => q
  | _, _, _, _, .cons r t, q => .cons r (paired_app t q)
theorem paired_mem {α β : Type} {R : α → β → Prop} : ∀ {xs : List α} {as : List β}, Paired R xs as → ∀ x ∈ xs, ∃ a ∈ as, R x a
  | _, _, .nil, x, hx => by cases hx
  | _, _, .cons r t, x, hx => by
    rcases List.mem_cons.mp hx with rfl | hx
    · exact ⟨_, List.mem_cons_self, r⟩
    · obtain ⟨a, h1, h2⟩ := paired_mem t x hx
      exact ⟨a, List.mem_cons_of_mem _ h1, h2⟩
theorem pairs_dpa {K : PySem.W.Frag} {H : Hp} : ∀ {as : List Addr} {G : Form}, Paired (PairAt K H) as G → DpAll K H (as.map V.ref) (G.map dP)
  | _, _, .nil => .nil
  | _, _, .cons r t => by
    obtain ⟨v, e, d⟩ := r
    exact .cons (dp_P (.of e) d) (pairs_dpa t)
/-- a pair's lead, read off the heap -/
def keyAt (H : Hp) (a : Addr) : Int := match H a with
  | some (.tup (.int l :: _)) => l
  | _ => 0
theorem keyAt_of {K : PySem.W.Frag} {H : Hp} {a : Addr} {p : Nat × List Int} (h : PairAt K H a p) : keyAt H a = (p.1 : Int) := by
  obtain ⟨v, e, _⟩ := h
  unfold keyAt
  rw [e]
theorem keys_map {K : PySem.W.Frag} {H : Hp} : ∀ {as : List Addr} {G : Form}, Paired (PairAt K H) as G → as.map (keyAt H) = G.map fun p => (p.1 : Int)
  | _, _, .nil => rfl
  | _, _, .cons r t => by
    rw [List.map_cons, List.map_cons, keyAt_of r, keys_map t]
theorem inj_of_nodup {α : Type} {f : α → Int} : ∀ {l : List α}, (l.map f).Nodup → ∀ x ∈ l, ∀ y ∈ l, f x = f y → x = y
  | [], _, x, hx, _, _, _ => by cases hx
  | a :: l, h, x, hx, y, hy, e => by
    rw [List.map_cons, List.nodup_cons] at h
    rcases List.mem_cons.mp hx with ex | hx1
    · rcases List.mem_cons.mp hy with ey | hy1
      · rw [ex, ey]
      · have z : f a ∈ l.map f := List.mem_map.mpr ⟨y, hy1, by rw [← e, ex]⟩
        exact absurd z h.1
    · rcases List.mem_cons.mp hy with ey | hy1
      · have z : f a ∈ l.map f := List.mem_map.mpr ⟨x, hx1, by rw [e, ey]⟩
        exact absurd z h.1
      · exact inj_of_nodup h.2 x hx1 y hy1 e
def sp_with_row (K : PySem.W.Frag) : Sp := fun vs H Q _ => ∃ c n x F y r, vs = [.int c, x, y] ∧ Dp K H x (dF F) ∧ Dp K H y (dT r) ∧ Clock c ∧ Red c n F ∧ RowOk c n r ∧ n ≤ 1000 ∧ ∀ H' v, Same H H' → Dp K H' v (dF (withRow c F r)) → Q v H'
def sp_least_in (K : PySem.W.Frag) : Sp := fun vs H Q _ => ∃ c n x rs, vs = [.int c, x] ∧ Dp K H x (dLT rs) ∧ Clock c ∧ (∀ r ∈ rs, RowOk c n r) ∧ n ≤ 1000 ∧ ∀ H' v, Same H H' → Dp K H' v (dTT (leastIn c rs)) → Q v H'
section
variable {P : Program} {w : World} {K : PySem.W.Frag} {mg : Str → Option Value} {base : Heap} {f : Addr} {fd : FuncData}
theorem ok_with_row (B : Bi mg) (c_cleared : Cal P w K mg base CX0 1 "cleared" ["clock", "row", "by", "at"] [] (sp_cleared K)) (c_cleared_by : Cal P w K mg base CX0 2 "cleared_by" ["clock", "row", "form"] [] (sp_cleared_by K))
    (c_inverse_in : Cal P w K mg base CX0 1 "inverse_in" ["clock", "number"] [] sp_inverse_in) (c_lead_of : Cal P w K mg base CX0 1 "lead_of" ["row"] [] (sp_lead_of K)) (c_times_in : Cal P w K mg base CX0 1 "times_in" ["clock", "number", "row"] [] (sp_times_in K))
    (F : FnP K "with_row" s_with_row f fd) : FnOk P w K mg base CX0 3 f fd ["clock", "form", "row"] (sp_with_row K) := by
  have nd := sc_with_row.nd
  refine okN F sc_with_row (fun vs H Q E h => by obtain ⟨c, n, x, F, y, r, rfl, _⟩ := h; rfl) (fun cdv A outer s H vs Q E hr h => ?_)
  have hr1 : Room 1 (A.deeper (envOfC "with_row" (defScope s_with_row) s.heap.objs.size f cdv)) := hr.mono (by decide)
  have hr_cleared_by := hr
  have hr_cleared := hr1
  have hr_inverse_in := hr1
  have hr_lead_of := hr1
  have hr_times_in := hr1
  refine ⟨_, (pss_cons (ps_asg (e_call c_cleared_by hr_cleared_by pass0 (pa_cons (pv 0) (pa_cons (pv 2) (pa_cons (pv 1) pa_nil)))) (pgn 3 nd))
      (pss_cons (ps_asg (e_call c_lead_of hr_lead_of pass0 (pa_cons (pv 3) pa_nil)) (pgn 4 nd))
      (pss_cons (ps_if (pt_cmpR op_isN (pv 4) pe_non (nomark _)) (pss_one (ps_ret (pv 1))) pss_nil)
      (pss_cons (ps_asg (e_call c_times_in hr_times_in pass0 (pa_cons (pv 0) (pa_cons (e_call c_inverse_in hr_inverse_in pass0 (pa_cons (pv 0) (pa_cons (pe_ix (kIxT K) (pv 3) (pv 4) (fun _ _ => rfl)) pa_nil))) (pa_cons (pv 3) pa_nil)))) (pgn 5 nd))
      (pss_one (ps_ret (pe_callB cr_sortP rfl B.sorted bt_sorted (pa_cons (pe_lst (StX.pa_star (pe_lc (g := gTup K 2 (gCons (gName 6) (gCons (gName 7) gNil))) (own := [("at", 6), ("each", 7)]) rfl nd (pi_list (pv 1)) (blkOk_by (N := N_with_row) (sc := (defScope s_with_row)) (by decide +kernel)) (fun _ _ _ _ _ => by exact (pg_tup rfl (pgs_cons (pgn 6 nd) (pgs_cons (pgn 7 nd) pgs_nil)))) (fun _ _ _ _ _ => by exact pts_nil) (fun _ _ _ _ _ => by exact (pe_tup (pa_cons (pv 6) (pa_cons (e_call c_cleared hr_cleared pass0 (pa_cons (pv 0) (pa_cons (pv 7) (pa_cons (pv 5) (pa_cons (pv 4) pa_nil))))) pa_nil))))) (pa_cons (pe_tup (pa_cons (pv 4) (pa_cons (pv 5) pa_nil))) pa_nil))) pa_nil)))))))), ?_⟩
  obtain ⟨c, n, x, F, y, r, rfl, hx, hy, hc, hF, hrow, hn, q⟩ := h
  have c0 := hc.pos
  have ns : n ≤ sizeLine := Nat.le_trans hn (by decide)
  refine ⟨_, rfl, _, rfl, _, rfl, c, n, _, r, _, F, rfl, hy, hx, hc, hrow, fun p hp => ⟨(hF.row p hp).1, hF.lt p hp⟩, ns, fun H1 L s1 hL => ?_⟩
  have okL : RowOk c n (clrBy c r F) := clrBy_ok c0 hrow fun p hp => (hF.row p hp).1
  have hz := clrBy_lead c0 hF hrow
  obtain ⟨aL, rfl, haL⟩ := dp_T' hL
  refine ⟨_, rfl, aL, _, rfl, haL, fun H2 s2 => ⟨_, rfl, rfl, _, rfl, ?_⟩⟩
  cases e : leadOf (clrBy c r F) with
  | none =>
    refine iteT ⟨_, rfl, q _ _ (s1.trans s2) ?_⟩
    rw [withRow_no F r e]
    exact dp_same (s1.trans s2) hx
  | some l =>
    have e0 : decide (leadV (some l) = V.non) = false := by simp [leadV]
    rw [e0]
    refine iteF ?_
    have red' := withRow_red hc hF hrow
    rw [withRow_eq F r e] at q red'
    obtain ⟨l1, l2, l3⟩ := leadOf_some e
    have ix : ((clrBy c r F).map V.int)[l]? = some (.int ((clrBy c r F).getD l 0)) := by
      rw [List.getElem?_map, List.getD_eq_getElem?_getD, List.getElem?_eq_getElem l1]
      rfl
    obtain ⟨x0, x1⟩ := getD_row c0 okL l
    have inv := isInv_of hc x0 x1 l2
    have haL2 := same_tup s2 haL
    have oldx := dp_same (s1.trans s2) hx
    have s12 := s1.trans s2
    have ln : l < n := by rw [← okL.1]; exact l1
    generalize clrBy c r F = Lr at *
    refine ⟨_, rfl, _, rfl, _, rfl, _, rfl, aL, _, _, _, rfl, rfl, haL2, atI_nat ix, c, _, _, rfl, hc, ⟨x0, x1⟩, inv, _, rfl, ?_⟩
    obtain ⟨i0, i1, _⟩ := inv
    refine ⟨c, _, aL, Lr, rfl, haL2, hc, ⟨by omega, i1⟩, by rw [okL.1]; exact ns, fun H3 N s3 hN => ?_⟩
    obtain ⟨aN, rfl, haN⟩ := dp_T' hN
    have okN : RowOk c n (timesOf c (invOf c (Lr.getD l 0)) Lr) := times_ok c0 okL.1
    generalize timesOf c (invOf c (Lr.getD l 0)) Lr = Nw at *
    have oldx3 := dp_same s3 oldx
    obtain ⟨aF, vs, rfl, haF, hvs⟩ := dp_lst' oldx3
    have el : vs.length = F.length := by rw [dpa_length hvs, List.length_map]
    refine ⟨_, rfl, aF, rfl, ⟨_, haF⟩, fun D hD => ?_⟩
    refine lcg (walk_list (xs := vs)) (fun i acc H => ∃ as : List Addr, acc = as.map V.ref ∧ Paired (PairAt K H) as ((F.map fun p => (p.1, clr c p.2 Nw l)).take i)) hD (fun H' z => z.seq haF) (fun i acc Ha Hb z ⟨as, e1, e2⟩ => ⟨as, e1, Paired.mapP e2 fun a b => PairAt.same z⟩) ⟨[], rfl, .nil⟩
      (fun i u Ha Hb acc N N0 hi s4 ea ⟨as, e1, e2⟩ y k _ => ?_) (fun H4 xs s4 eD ⟨as, e1, e2⟩ => ?_)
    · obtain ⟨rfl, hu⟩ := y
      obtain ⟨p, hp, hd⟩ := pair_get (dpa_same s4 hvs) hu
      obtain ⟨a, y, rfl, ha, hy2⟩ := dp_P' hd
      obtain ⟨a2, rfl, ha2⟩ := dp_T' hy2
      have pm : p ∈ F := List.mem_of_getElem? hp
      refine ⟨a, _, rfl, ha, rfl, _, _, rfl, _, _, rfl, rfl, rfl, ?_⟩
      refine ⟨_, rfl, _, rfl, _, rfl, _, rfl, _, rfl, c, n, a2, p.2, aN, Nw, l, rfl, ha2, same_tup s4 haN, hc, hF.row p pm, okN.1, ln, ns, fun H5 v s5 hv => ⟨(by show 2 ≤ sizeLine; decide), fun T hT => ?_⟩⟩
      have s6 : Same H5 (upd H5 T (.tup [.int (p.1 : Nat), v])) := same_upd hT
      have D5 : H5 D = some (.lst acc) := s5 _ _ ea
      have nT : T ≠ D := fun z => by rw [z, D5] at hT; cases hT
      refine k _ _ (s5.trans s6) ?_ ⟨as ++ [T], by rw [e1, List.map_append]; rfl, ?_⟩
      · have hl : acc.length = ((F.map fun p => (p.1, clr c p.2 Nw l)).take i).length := by
          rw [e1, List.length_map]
          exact Paired.length e2
        rw [List.length_take, List.length_map] at hl
        have hlen := hF.len
        have z : (1000 : Nat) < sizeLine := by decide
        omega
      · have hp' : (F.map fun p => (p.1, clr c p.2 Nw l))[i]? = some (p.1, clr c p.2 Nw l) := by rw [List.getElem?_map, hp]; rfl
        rw [take_snoc hp']
        refine paired_app (Paired.mapP e2 fun a b z => z.same (same_dels (s5.trans s6) D)) (.cons ⟨v, ?_, ?_⟩ .nil)
        · rw [del_ne nT]
          exact upd_same
        · exact dpT_del (dp_same s6 hv) (s6 _ _ D5)
    · rw [el, List.take_of_length_le (by simp)] at e2
      refine ⟨D, xs, rfl, .inr (.of eD), _, rfl, _, rfl, (by show 2 ≤ sizeLine; decide), fun T hT => ⟨?_, fun R hR => ?_⟩⟩
      · have hl : xs.length = F.length := by
          rw [e1, List.length_map, Paired.length e2, List.length_map]
        have hlen := hF.len
        show (xs ++ [V.ref T]).length ≤ sizeLine
        rw [List.length_append, hl]
        have z : (1001 : Nat) ≤ sizeLine := by decide
        have z2 : [V.ref T].length = 1 := rfl
        omega
      · have sT : Same H4 (upd H4 T (.tup [leadV (some l), .ref aN])) := same_upd hT
        have sR : Same (upd H4 T (.tup [leadV (some l), .ref aN])) (upd (upd H4 T (.tup [leadV (some l), .ref aN])) R (.lst (xs ++ [V.ref T]))) := same_upd hR
        have s34 : Same H3 H4 := s4
        generalize hH5 : upd H4 T (.tup [leadV (some l), .ref aN]) = H5 at *
        generalize hH6 : upd H5 R (.lst (xs ++ [V.ref T])) = H6 at *
        have pr : Paired (PairAt K H6) (as ++ [T]) ((F.map fun p => (p.1, clr c p.2 Nw l)) ++ [(l, Nw)]) := by
          refine paired_app (Paired.mapP e2 fun a b z => z.same ((same_del.trans sT).trans sR)) (.cons ⟨.ref aN, sR _ _ (by rw [← hH5]; exact upd_same), ?_⟩ .nil)
          exact dp_same ((s34.trans sT).trans sR) hN
        have perm := (insF_perm (l, Nw) (F.map fun p => (p.1, clr c p.2 Nw l)))
        have ndk : ((as ++ [T]).map (keyAt H6)).Nodup := by
          rw [keys_map pr]
          have z := (perm.map (·.1)).nodup_iff.mp red'.nd
          have z2 : (((F.map fun p => (p.1, clr c p.2 Nw l)) ++ [(l, Nw)]).map fun p => (p.1 : Int)) = (((F.map fun p => (p.1, clr c p.2 Nw l)) ++ [(l, Nw)]).map (·.1)).map fun m : Nat => (m : Int) := by
            rw [List.map_map]
            rfl
          rw [z2]
          exact z.map _ fun a b h h2 => h (Int.ofNat.inj h2)
        refine ⟨R, as ++ [T], keyAt H6, rfl, .of ?_, fun a ha => ?_, inj_of_nodup ndk, fun ys p hperm hsrt hp => ?_⟩
        · rw [← hH6, upd_same, List.map_append, e1]
          rfl
        · obtain ⟨p, _, v, ev, _⟩ := paired_mem pr a ha
          refine ⟨v, .of ?_⟩
          rw [keyAt_of ⟨v, ev, by assumption⟩]
          exact ev
        · obtain ⟨G', gp, gq⟩ := paired_perm hperm pr
          have sP : Same H6 (upd H6 p (.lst (ys.map V.ref))) := same_upd hp
          have gs : (G'.map (·.1)).Pairwise (· < ·) := by
            refine le_lt ?_ ((gp.map (·.1)).nodup_iff.mpr ((perm.map (·.1)).nodup_iff.mp red'.nd))
            have z := keys_map gq
            have z2 : (ys.map (keyAt H6)).Pairwise (· ≤ ·) := List.pairwise_map.mpr hsrt
            rw [z, List.pairwise_map] at z2
            rw [List.pairwise_map]
            exact z2.imp fun {a b} h => by omega
          have eG : G' = insF (l, Nw) (F.map fun p => (p.1, clr c p.2 Nw l)) := srt_uniq (gp.trans perm.symm) gs red'.srt
          refine q _ _ ((((s12.trans s3).trans s34).trans sT).trans (sR.trans sP)) (.lst (.of upd_same) ?_)
          rw [← eG]
          exact pairs_dpa (Paired.mapP gq fun a b z => z.same sP)
theorem ok_least_in (B : Bi mg) (c_with_row : Cal P w K mg base CX0 3 "with_row" ["clock", "form", "row"] [] (sp_with_row K)) (F : FnP K "least_in" s_least_in f fd) : FnOk P w K mg base CX0 4 f fd ["clock", "rows"] (sp_least_in K) := by
  have nd := sc_least_in.nd
  refine okN F sc_least_in (fun vs H Q E h => by obtain ⟨c, n, x, rs, rfl, _⟩ := h; rfl) (fun cdv A outer s H vs Q E hr h => ?_)
  have hr_with_row := hr
  refine ⟨_, (pss_cons (ps_asg (pe_lst pa_nil) (pgn 2 nd))
      (pss_cons (ps_for PassesOwn.never rfl (pi_list (pv 1)) (pgn 3 nd)
      (pss_one (ps_asg (e_call c_with_row hr_with_row pass0 (pa_cons (pv 0) (pa_cons (pv 2) (pa_cons (pv 3) pa_nil)))) (pgn 2 nd))))
      (pss_one (ps_ret (pe_callTy (kTup K) rfl B.tuple bt_tuple (pa_cons (pe_lc (g := gTup K 2 (gCons (gName 4) (gCons (gName 3) gNil))) (own := [("_", 4), ("row", 3)]) rfl nd (pi_list (pv 2)) (blkOk_by (N := N_least_in) (sc := (defScope s_least_in)) (by decide +kernel)) (fun _ _ _ _ _ => by exact (pg_tup rfl (pgs_cons (pgn 4 nd) (pgs_cons (pgn 3 nd) pgs_nil)))) (fun _ _ _ _ _ => by exact pts_nil) (fun _ _ _ _ _ => by exact (pv 3))) pa_nil)))))), ?_⟩
  obtain ⟨c, n, x, rs, rfl, hx, hc, hrow, hn, q⟩ := h
  obtain ⟨a, vs, rfl, ha, hvs⟩ := dp_lst' hx
  have el : vs.length = rs.length := by rw [dpa_length hvs, List.length_map]
  refine ⟨(by show 0 ≤ sizeLine; decide), fun p hp => ?_⟩
  have s0 : Same H (upd H p (.lst [])) := same_upd hp
  refine ⟨_, rfl, a, rfl, ⟨_, s0.seq ha⟩, ?_⟩
  refine for_it (walk_list (xs := vs)) (fun i σ H' => Same H H' ∧ ∃ v x1 x2, σ = [some (.int c), some (.ref a), some v, x1, x2] ∧ Dp K H' v (dF (formOf c (rs.take i)))) ⟨s0, .ref p, none, none, rfl, .lst (.of upd_same) .nil⟩ (fun i σ H' _ p => p.1.seq ha) ?_ ?_
  · rintro i u σ H1 H2 hi ⟨s1, v, x1, x2, rfl, hv⟩ ⟨rfl, hu⟩
    obtain ⟨r, hr1, hd⟩ := row_get (dpa_same s1 hvs) hu
    refine ⟨_, rfl, _, rfl, _, rfl, c, n, _, _, _, r, rfl, hv, hd, hc, formOf_red hc fun r hr => hrow r (List.mem_of_mem_take hr), hrow r (List.mem_of_getElem? hr1), hn, fun H3 v3 s3 hv3 => ⟨s1.trans s3, v3, _, _, rfl, ?_⟩⟩
    rw [take_snoc hr1]
    unfold formOf
    rw [List.foldl_append]
    exact hv3
  · rintro σ H1 ⟨s1, v, x1, x2, rfl, hv⟩
    rw [el, List.take_length] at hv
    obtain ⟨b, us, rfl, hb, hus⟩ := dp_lst' hv
    have eu : us.length = (formOf c rs).length := by rw [dpa_length hus, List.length_map]
    refine ⟨_, rfl, b, rfl, ⟨_, hb⟩, fun D hD => ?_⟩
    have red := formOf_red hc hrow
    refine lc_data (K := K) (walk_list (xs := us)) (fun i => dT ((formOf c rs).getD i (0, [])).2) hD (by rw [eu]; exact Nat.le_trans red.len (Nat.le_trans hn (by decide))) (fun H' z => z.seq hb) (fun i u Ha Hb N hi s4 hacc y k => ?_) (fun H' xs s2 e hxs => ?_)
    · obtain ⟨rfl, hu⟩ := y
      obtain ⟨p, hp, hd⟩ := pair_get (dpa_same s4 hus) hu
      obtain ⟨a1, y, rfl, ha1, hy1⟩ := dp_P' hd
      obtain ⟨acc, hacc⟩ := hacc
      refine ⟨a1, _, rfl, ha1, rfl, _, _, rfl, _, _, rfl, rfl, rfl, _, rfl, k _ _ (Same.refl _) ?_⟩
      rw [List.getD_eq_getElem?_getD, hp]
      exact dpT_del hy1 hacc
    · refine ⟨D, xs, rfl, .inl ⟨.of e, fun p hp => q _ _ ((s1.trans s2).trans (same_upd hp)) (.tup (.of upd_same) ?_)⟩⟩
      have z := map_range_getD (formOf c rs) (0, []) fun p => dT p.2
      rw [eu, z] at hxs
      unfold leastIn
      rw [List.map_map]
      exact dpa_same (same_del.trans (same_upd hp)) hxs
end
end K61

set_option Elab.async false
set_option linter.all false
set_option maxRecDepth 100000
set_option maxHeartbeats 4000000
/-! The walks: rims and roped, the pure parts. -/
namespace K61
open PySem PySem.Spec PyProof.Rows L2
theorem map_int_get (l : List Int) {i : Nat} (h : i < l.length) : (l.map V.int)[i]? = some (.int (l.getD i 0)) := by
  rw [List.getElem?_map, List.getD_eq_getElem?_getD, List.getElem?_eq_getElem h]
  rfl
theorem evens_map (f : Int → V) : ∀ l : List Int, evens (l.map f) = (evens l).map f
  | [] => rfl
  | [_] => rfl
  | x :: _ :: r => by
    show f x :: evens (r.map f) = f x :: (evens r).map f
    rw [evens_map f r]
theorem evens_drop (r : List Int) (a : Nat) : evens ((r.map V.int).drop a) = (evens (r.drop a)).map V.int := by
  rw [← List.map_drop, evens_map]
abbrev s_differences : Stmt := top 47
abbrev N_differences : List Str := ["clock", "row", "many", "gap"]
theorem sc_differences : FnScope N_differences ["clock", "row"] (defScope s_differences) := ⟨rfl, rfl, rfl, by decide +kernel, rfl, by decide +kernel, by decide +kernel⟩
abbrev s_swing_in : Stmt := top 48
abbrev N_swing_in : List Str := ["clock", "one", "other", "mine", "its"]
theorem sc_swing_in : FnScope N_swing_in ["clock", "one", "other"] (defScope s_swing_in) := ⟨rfl, rfl, rfl, by decide +kernel, rfl, by decide +kernel, by decide +kernel⟩
abbrev s_whites_in : Stmt := top 53
abbrev N_whites_in : List Str := ["clock", "row", "number"]
theorem sc_whites_in : FnScope N_whites_in ["clock", "row"] (defScope s_whites_in) := ⟨rfl, rfl, rfl, by decide +kernel, rfl, by decide +kernel, by decide +kernel⟩
abbrev s_blacks_in : Stmt := top 54
abbrev N_blacks_in : List Str := ["clock", "row", "number", "later"]
theorem sc_blacks_in : FnScope N_blacks_in ["clock", "row"] (defScope s_blacks_in) := ⟨rfl, rfl, rfl, by decide +kernel, rfl, by decide +kernel, by decide +kernel⟩
abbrev s_with_whites : Stmt := top 55
abbrev N_with_whites : List Str := ["whites", "found", "number"]
theorem sc_with_whites : FnScope N_with_whites ["whites"] (defScope s_with_whites) := ⟨rfl, rfl, rfl, by decide +kernel, rfl, by decide +kernel, by decide +kernel⟩
abbrev s_with_blacks : Stmt := top 56
abbrev N_with_blacks : List Str := ["clock", "blacks", "found", "step"]
theorem sc_with_blacks : FnScope N_with_blacks ["clock", "blacks"] (defScope s_with_blacks) := ⟨rfl, rfl, rfl, by decide +kernel, rfl, by decide +kernel, by decide +kernel⟩
def sp_whites_in (K : PySem.W.Frag) : Sp := fun vs H Q _ => ∃ c x r, vs = [.int c, x] ∧ Dp K H x (dT r) ∧ Clock c ∧ 2 ≤ r.length ∧ r.length ≤ 1000 ∧ ∀ H' v, Same H H' → Dp K H' v (dT (whitesOf c r)) → Q v H'
def sp_blacks_in (K : PySem.W.Frag) : Sp := fun vs H Q _ => ∃ c x r, vs = [.int c, x] ∧ Dp K H x (dT r) ∧ Clock c ∧ 3 ≤ r.length ∧ r.length ≤ 1000 ∧ ∀ H' v, Same H H' → Dp K H' v (dT (blacksOf c r)) → Q v H'
def sp_with_whites (K : PySem.W.Frag) : Sp := fun vs H Q _ => ∃ x r, vs = [x] ∧ Dp K H x (dT r) ∧ r.length ≤ 1000 ∧ ∀ H' p, Same H H' → H p = none → H' p = some (.lst ((withW r).map V.int)) → Q (.ref p) H'
def sp_with_blacks (K : PySem.W.Frag) : Sp := fun vs H Q _ => ∃ c x r, vs = [.int c, x] ∧ Dp K H x (dT r) ∧ Clock c ∧ r.length ≤ 1000 ∧ ∀ H' p, Same H H' → H p = none → H' p = some (.lst ((withB c r).map V.int)) → Q (.ref p) H'
def sp_differences (K : PySem.W.Frag) : Sp := fun vs H Q _ => ∃ c x r, vs = [.int c, x] ∧ Dp K H x (dT r) ∧ Clock c ∧ 1 ≤ r.length ∧ r.length ≤ 1000 ∧ ∀ H' v, Same H H' → Dp K H' v (dT (diffOf c r)) → Q v H'
def sp_swing_in (K : PySem.W.Frag) : Sp := fun vs H Q _ => ∃ c x y a b, vs = [.int c, x, y] ∧ Dp K H x (dT a) ∧ Dp K H y (dT b) ∧ Clock c ∧ 1 ≤ a.length ∧ a.length ≤ 1000 ∧ (∀ z ∈ b, 0 ≤ z ∧ z < c) ∧ ∀ H', Same H H' → Q (.int (swingOf c a b)) H'
section
variable {P : Program} {w : World} {K : PySem.W.Frag} {mg : Str → Option Value} {base : Heap} {f : Addr} {fd : FuncData}
theorem ok_whites_in (B : Bi mg) (F : FnP K "whites_in" s_whites_in f fd) : FnOk P w K mg base CX0 1 f fd ["clock", "row"] (sp_whites_in K) := by
  have nd := sc_whites_in.nd
  refine okN F sc_whites_in (fun vs H Q E h => by obtain ⟨c, x, r, rfl, _⟩ := h; rfl) (fun cdv A outer s H vs Q E hr h => ⟨_, (pss_one (ps_ret (pe_callTy (kTup K) rfl B.tuple bt_tuple (pa_cons (pe_lc (own := [("number", 2)]) rfl nd (pi_tup (pe_ev 2 (pv 1))) (blkOk_by (N := N_whites_in) (sc := (defScope s_whites_in)) (by decide +kernel)) (fun _ _ _ _ _ => by exact (pgn 2 nd)) (fun _ _ _ _ _ => by exact pts_nil) (fun _ _ _ _ _ => by exact (pe_op op_mod (pe_op op_sub (pv 2) (pe_ix (kIxT K) (pv 1) pe_int (fun _ _ => rfl))) (pv 0)))) pa_nil)))), ?_⟩)
  obtain ⟨c, x, r, rfl, hx, hc, h2, hl, q⟩ := h
  have c0 := hc.pos
  obtain ⟨a, rfl, ha⟩ := dp_T' hx
  refine ⟨_, rfl, a, _, rfl, ha, by simpa using h2, fun p hp => ⟨p, rfl, ⟨_, .of upd_same⟩, fun D hD => ?_⟩⟩
  rw [evens_drop] at hD ⊢
  have s1 : Same H (upd H p (.tup ((evens (r.drop 2)).map V.int))) := same_upd hp
  refine lc_val (walk_tup (xs := (evens (r.drop 2)).map V.int)) (fun i => .int (((evens (r.drop 2)).getD i 0 - r.getD 0 0) % c)) hD ?_ (fun H' z => same_tup z (.of upd_same)) (fun i x H1 H2 N hi s2 _ y k => ?_) (fun H' s2 e => ?_)
  · rw [List.length_map, evens_len, List.length_drop]
    exact Nat.le_trans (by omega) (by decide : 1000 ≤ sizeLine)
  · obtain ⟨rfl, hx⟩ := y
    obtain ⟨m, hm, rfl⟩ := int_get hx
    have z := k H2 (Same.refl _)
    rw [getD_of hm] at z
    exact ⟨rfl, _, rfl, _, rfl, a, _, 0, _, rfl, rfl, same_tup (s1.trans s2) ha, atI_nat (j := 0) (map_int_get r (i := 0) (by omega)), _, _, rfl, rfl, _, rfl, _, _, rfl, rfl, c0, z⟩
  · refine ⟨D, _, rfl, .inl ⟨.of e, fun p2 hp2 => q _ _ ((s1.trans s2).trans (same_upd hp2)) ?_⟩⟩
    have z := map_range_getD (evens (r.drop 2)) 0 fun x => V.int ((x - r.getD 0 0) % c)
    rw [List.length_map, z]
    refine dp_T (.of ?_)
    rw [upd_same]
    unfold whitesOf
    rw [List.map_map]
    rfl
theorem ok_blacks_in (B : Bi mg) (F : FnP K "blacks_in" s_blacks_in f fd) : FnOk P w K mg base CX0 1 f fd ["clock", "row"] (sp_blacks_in K) := by
  have nd := sc_blacks_in.nd
  refine okN F sc_blacks_in (fun vs H Q E h => by obtain ⟨c, x, r, rfl, _⟩ := h; rfl) (fun cdv A outer s H vs Q E hr h => ⟨_, (pss_one (ps_ret (pe_callTy (kTup K) rfl B.tuple bt_tuple (pa_cons (pe_lc (g := gTup K 2 (gCons (gName 2) (gCons (gName 3) gNil))) (own := [("number", 2), ("later", 3)]) rfl nd (RZ.pi_zipA rfl B.zip (pa_cons (pe_ev 1 (pv 1)) (pa_cons (pe_ev 3 (pv 1)) pa_nil))) (blkOk_by (N := N_blacks_in) (sc := (defScope s_blacks_in)) (by decide +kernel)) (fun _ _ _ _ _ => by exact (pg_tup rfl (pgs_cons (pgn 2 nd) (pgs_cons (pgn 3 nd) pgs_nil)))) (fun _ _ _ _ _ => by exact pts_nil) (fun _ _ _ _ _ => by exact (pe_op op_mod (pe_op op_sub (pv 3) (pv 2)) (pv 0)))) pa_nil)))), ?_⟩)
  obtain ⟨c, x, r, rfl, hx, hc, h2, hl, q⟩ := h
  have c0 := hc.pos
  obtain ⟨a, rfl, ha⟩ := dp_T' hx
  have lr : (r.map V.int).length = r.length := List.length_map _
  refine ⟨_, rfl, a, _, rfl, ha, by rw [lr]; omega, fun p hp => ?_⟩
  have s1 : Same H (upd H p (.tup (evens ((r.map V.int).drop 1)))) := same_upd hp
  refine ⟨_, rfl, a, _, rfl, same_tup s1 ha, by rw [lr]; omega, fun p' hp' => ?_⟩
  rw [evens_drop, evens_drop] at *
  generalize hH1 : upd H p (.tup ((evens (r.drop 1)).map V.int)) = H1 at *
  have e1 : H1 p = some (.tup ((evens (r.drop 1)).map V.int)) := by rw [← hH1]; exact upd_same
  have s2 : Same H1 (upd H1 p' (.tup ((evens (r.drop 3)).map V.int))) := same_upd hp'
  refine ⟨p, p', _, _, rfl, .inr ⟨.of (s2 _ _ e1), .of upd_same, fun D hD => ?_⟩⟩
  have l1 : (evens (r.drop 1)).length ≤ 1000 := by rw [evens_len, List.length_drop]; omega
  refine lc_val (walk_zipT rfl) (fun j => .int (((evens (r.drop 3)).getD j 0 - (evens (r.drop 1)).getD j 0) % c)) hD ?_ (fun H' z => ⟨same_tup z (.of (s2 _ _ e1)), same_tup z (.of upd_same)⟩) (fun j x Ha Hb N hj s3 _ y k => ?_) (fun H' s3 e4 => ?_)
  · rw [List.length_map, List.length_map]
    exact Nat.le_trans (by omega) (by decide : 1000 ≤ sizeLine)
  · obtain ⟨T, u, v, rfl, hT, rfl, e1, e2⟩ := y
    obtain ⟨x1, hx1, rfl⟩ := int_get e1
    obtain ⟨x2, hx2, rfl⟩ := int_get e2
    have z := k _ (same_upd (o := .tup [.int x1, .int x2]) hT)
    rw [getD_of hx1, getD_of hx2] at z
    exact ⟨T, _, rfl, .of upd_same, rfl, _, _, rfl, _, _, rfl, rfl, rfl, _, rfl, _, rfl, _, _, rfl, rfl, _, rfl, _, _, rfl, rfl, c0, z⟩
  · refine ⟨D, _, rfl, .inl ⟨.of e4, fun p2 hp2 => q _ _ (((s1.trans s2).trans s3).trans (same_upd hp2)) ?_⟩⟩
    refine dp_T (.of ?_)
    rw [upd_same]
    have z := zip_range_getD (evens (r.drop 1)) (evens (r.drop 3)) fun x y => V.int ((y - x) % c)
    unfold blacksOf
    rw [List.length_map, List.length_map, z, List.map_zipWith]
theorem ok_with_whites (F : FnP K "with_whites" s_with_whites f fd) : FnOk P w K mg base CX0 1 f fd ["whites"] (sp_with_whites K) := by
  have nd := sc_with_whites.nd
  refine okN F sc_with_whites (fun vs H Q E h => by obtain ⟨x, r, rfl, _⟩ := h; rfl) (fun cdv A outer s H vs Q E hr h => ⟨_, (pss_cons (ps_asg (pe_lst (pa_cons pe_int (pa_cons pe_int pa_nil))) (pgn 1 nd))
      (pss_cons (ps_for PassesOwn.never rfl (pi_tup (pv 0)) (pgn 2 nd)
      (pss_one (ps_expr (pe_bm PySem.F.plainAttrs_list PySem.F.slot_list_extend PySem.F.type_list_extend mt_extend (pv 1) (pa_cons (pe_lst (pa_cons (pv 2) (pa_cons pe_int pa_nil))) pa_nil)))))
      (pss_one (ps_ret (pv 1))))), ?_⟩)
  obtain ⟨x, r, rfl, hx, hl, q⟩ := h
  obtain ⟨a, rfl, ha⟩ := dp_T' hx
  refine ⟨(by show 2 ≤ sizeLine; decide), fun p hp => ?_⟩
  have s0 : Same H (upd H p (.lst [.int 0, .int 0])) := same_upd hp
  refine ⟨_, rfl, a, rfl, ⟨_, same_tup s0 ha⟩, ?_⟩
  refine for_it (walk_tup (xs := r.map V.int)) (fun i σ H' => Same H H' ∧ H' p = some (.lst ((withW (r.take i)).map V.int)) ∧ ∃ x1, σ = [some (.ref a), some (.ref p), x1]) ⟨s0, upd_same, none, rfl⟩ (fun i σ H' _ z => same_tup z.1 ha) ?_ ?_
  · rintro i u σ H1 H2 hi ⟨s1, ep, x1, rfl⟩ ⟨rfl, hu⟩
    obtain ⟨m, hm, rfl⟩ := int_get hu
    refine ⟨_, rfl, .inl ⟨rfl, _, .of ep⟩, _, rfl, (by show 2 ≤ sizeLine; decide), fun b hb => ?_⟩
    have nb : p ≠ b := ne_of_none ep hb
    refine ⟨p, b, _, _, rfl, rfl, by rw [upd_ne nb]; exact ep, upd_same, ?_, ?_, ?_, _, rfl⟩
    · rw [List.length_map, withW_len, List.length_take]
      have z : (1000000 : Nat) ≤ sizeLine := by decide
      show 2 + 2 * min i r.length + 2 ≤ sizeLine
      omega
    · intro b' o e
      rw [upd_ne (ne_of_none e hp), upd_ne (ne_of_none (s1 _ _ e) hb)]
      exact s1 _ _ e
    · rw [upd_same, take_snoc hm]
      unfold withW
      rw [List.foldl_append, List.foldl_cons, List.foldl_nil, List.map_append]
      rfl
  · rintro σ H1 ⟨s1, ep, x1, rfl⟩
    rw [List.length_map, List.take_length] at ep
    exact ⟨_, rfl, q _ _ s1 hp ep⟩
theorem ok_with_blacks (F : FnP K "with_blacks" s_with_blacks f fd) : FnOk P w K mg base CX0 1 f fd ["clock", "blacks"] (sp_with_blacks K) := by
  have nd := sc_with_blacks.nd
  refine okN F sc_with_blacks (fun vs H Q E h => by obtain ⟨c, x, r, rfl, _⟩ := h; rfl) (fun cdv A outer s H vs Q E hr h => ⟨_, (pss_cons (ps_asg (pe_lst (pa_cons pe_int (pa_cons pe_int pa_nil))) (pgn 2 nd))
      (pss_cons (ps_for PassesOwn.never rfl (pi_tup (pv 1)) (pgn 3 nd)
      (pss_one (ps_expr (pe_bm PySem.F.plainAttrs_list PySem.F.slot_list_extend PySem.F.type_list_extend mt_extend (pv 2) (pa_cons (pe_lst (pa_cons pe_int (pa_cons (pe_op op_mod (pe_op op_add (pe_ix (kIxL K) (pv 2) (pe_un un_neg pe_int) (fun _ _ => rfl)) (pv 3)) (pv 0)) pa_nil))) pa_nil)))))
      (pss_one (ps_ret (pv 2))))), ?_⟩)
  obtain ⟨c, x, r, rfl, hx, hc, hl, q⟩ := h
  have c0 := hc.pos
  obtain ⟨a, rfl, ha⟩ := dp_T' hx
  refine ⟨(by show 2 ≤ sizeLine; decide), fun p hp => ?_⟩
  have s0 : Same H (upd H p (.lst [.int 0, .int 0])) := same_upd hp
  refine ⟨_, rfl, a, rfl, ⟨_, same_tup s0 ha⟩, ?_⟩
  refine for_it (walk_tup (xs := r.map V.int)) (fun i σ H' => Same H H' ∧ H' p = some (.lst ((withB c (r.take i)).map V.int)) ∧ ∃ x1, σ = [some (.int c), some (.ref a), some (.ref p), x1]) ⟨s0, upd_same, none, rfl⟩ (fun i σ H' _ z => same_tup z.1 ha) ?_ ?_
  · rintro i u σ H1 H2 hi ⟨s1, ep, x1, rfl⟩ ⟨rfl, hu⟩
    obtain ⟨m, hm, rfl⟩ := int_get hu
    have hl0 : (withB c (r.take i)).length ≠ 0 := by rw [withB_len]; omega
    have last : atI ((withB c (r.take i)).map V.int) (-1) = some (.int ((withB c (r.take i)).getLastD 0)) := by
      generalize withB c (r.take i) = l at hl0
      rcases List.eq_nil_or_concat l with e | ⟨l', y, e⟩
      · rw [e] at hl0
        exact absurd rfl hl0
      · rw [e, List.concat_eq_append, List.map_append]
        have z := atI_last (l'.map V.int) (V.int y)
        rw [show List.map V.int [y] = [V.int y] from rfl, z]
        simp
    refine ⟨_, rfl, .inl ⟨rfl, _, .of ep⟩, _, rfl, 1, rfl, p, _, _, _, rfl, rfl, .of ep, last, _, rfl, _, _, rfl, rfl, _, rfl, _, _, rfl, rfl, c0, (by show 2 ≤ sizeLine; decide), fun b hb => ?_⟩
    have nb : p ≠ b := ne_of_none ep hb
    refine ⟨p, b, _, _, rfl, rfl, by rw [upd_ne nb]; exact ep, upd_same, ?_, ?_, ?_, _, rfl⟩
    · rw [List.length_map, withB_len, List.length_take]
      have z : (1000000 : Nat) ≤ sizeLine := by decide
      show 2 + 2 * min i r.length + 2 ≤ sizeLine
      omega
    · intro b' o e
      rw [upd_ne (ne_of_none e hp), upd_ne (ne_of_none (s1 _ _ e) hb)]
      exact s1 _ _ e
    · rw [upd_same, take_snoc hm]
      unfold withB
      rw [List.foldl_append, List.foldl_cons, List.foldl_nil, List.map_append]
      rfl
  · rintro σ H1 ⟨s1, ep, x1, rfl⟩
    rw [List.length_map, List.take_length] at ep
    exact ⟨_, rfl, q _ _ s1 hp ep⟩
theorem ok_differences (B : Bi mg) (F : FnP K "differences" s_differences f fd) : FnOk P w K mg base CX0 1 f fd ["clock", "row"] (sp_differences K) := by
  have nd := sc_differences.nd
  refine okN F sc_differences (fun vs H Q E h => by obtain ⟨c, x, r, rfl, _⟩ := h; rfl) (fun cdv A outer s H vs Q E hr h => ⟨_, (pss_cons (ps_asg (pe_callB (kLen K) rfl B.len bt_len (pa_cons (pv 1) pa_nil)) (pgn 2 nd))
      (pss_one (ps_ret (pe_callTy (kTup K) rfl B.tuple bt_tuple (pa_cons (pe_lc (own := [("gap", 3)]) rfl nd (pi_range1 rfl B.range (pa_cons (pv 2) pa_nil)) (blkOk_by (N := N_differences) (sc := (defScope s_differences)) (by decide +kernel)) (fun _ _ _ _ _ => by exact (pgn 3 nd)) (fun _ _ _ _ _ => by exact pts_nil) (fun _ _ _ _ _ => by exact (pe_op op_mod (pe_op op_sub (pe_ix (kIxT K) (pv 1) (pe_op op_sub (pv 3) pe_int) (fun _ _ => rfl)) (pe_ix (kIxT K) (pv 1) (pe_op op_mod (pe_op op_add (pv 3) pe_int) (pv 2)) (fun _ _ => rfl))) (pv 0)))) pa_nil))))), ?_⟩)
  obtain ⟨c, x, r, rfl, hx, hc, h1, hl, q⟩ := h
  have c0 := hc.pos
  obtain ⟨a, rfl, ha⟩ := dp_T' hx
  have lr : (r.map V.int).length = r.length := List.length_map _
  refine ⟨_, rfl, a, _, rfl, .inr ha, ?_⟩
  rw [lr]
  refine ⟨_, rfl, (r.length : Int), rfl, by omega, by omega, fun D hD => ?_⟩
  have tn : ((r.length : Int)).toNat = r.length := by omega
  refine lc_val (walk_range (lo := 0) (n := r.length)) (fun g => .int ((r.getD (if g = 0 then r.length - 1 else g - 1) 0 - r.getD ((g + 1) % r.length) 0) % c)) hD (Nat.le_trans hl (by decide)) (fun H' z => trivial) (fun i x H1 H2 N hi s2 _ y k => ?_) (fun H' s2 e => ?_)
  · obtain ⟨rfl, rfl⟩ := y
    have z := k H2 (Same.refl _)
    have e1 : atI (r.map V.int) ((0 : Int) + (i : Int) - 1) = some (.int (r.getD (if i = 0 then r.length - 1 else i - 1) 0)) := by
      by_cases hi0 : i = 0
      · subst hi0
        rw [if_pos rfl]
        rcases List.eq_nil_or_concat r with e | ⟨l', y, e⟩
        · rw [e] at h1
          exact absurd h1 (by decide)
        · rw [e, List.concat_eq_append, List.map_append]
          have z := atI_last (l'.map V.int) (V.int y)
          rw [show (0 : Int) + ((0 : Nat) : Int) - 1 = -1 by omega, show List.map V.int [y] = [V.int y] from rfl, z]
          simp
      · rw [if_neg hi0, show (0 : Int) + (i : Int) - 1 = ((i - 1 : Nat) : Int) by omega]
        exact atI_nat (map_int_get r (by omega))
    have e2 : atI (r.map V.int) (((0 : Int) + (i : Int) + 1) % (r.length : Int)) = some (.int (r.getD ((i + 1) % r.length) 0)) := by
      rw [show (0 : Int) + (i : Int) + 1 = ((i + 1 : Nat) : Int) by omega, show ((i + 1 : Nat) : Int) % (r.length : Int) = (((i + 1) % r.length : Nat) : Int) from rfl]
      exact atI_nat (map_int_get r (Nat.mod_lt _ (by omega)))
    exact ⟨rfl, _, rfl, _, rfl, _, _, rfl, rfl, a, _, _, _, rfl, rfl, same_tup s2 ha, e1, _, rfl, _, rfl, _, _, rfl, rfl, _, rfl, _, _, rfl, rfl, (by show (0 : Int) < (r.length : Int); omega), a, _, _, _, rfl, rfl, same_tup s2 ha, e2, _, _, rfl, rfl, _, rfl, _, _, rfl, rfl, c0, z⟩
  · refine ⟨D, _, rfl, .inl ⟨.of e, fun p2 hp2 => q _ _ (s2.trans (same_upd hp2)) ?_⟩⟩
    refine dp_T (.of ?_)
    rw [upd_same]
    unfold diffOf
    rw [List.map_map]
    rfl
theorem ok_swing_in (B : Bi mg) (c_differences : Cal P w K mg base CX0 1 "differences" ["clock", "row"] [] (sp_differences K)) (F : FnP K "swing_in" s_swing_in f fd) : FnOk P w K mg base CX0 2 f fd ["clock", "one", "other"] (sp_swing_in K) := by
  have nd := sc_swing_in.nd
  refine okN F sc_swing_in (fun vs H Q E h => by obtain ⟨c, x, y, a, b, rfl, _⟩ := h; rfl) (fun cdv A outer s H vs Q E hr h => ?_)
  have hr_differences := hr
  refine ⟨_, (pss_one (ps_ret (pe_op op_mod (pe_callB (kSum K rfl) rfl B.sum bt_sum (pa_cons (pe_lc (g := gTup K 2 (gCons (gName 3) (gCons (gName 4) gNil))) (own := [("mine", 3), ("its", 4)]) rfl nd (RZ.pi_zipA rfl B.zip (pa_cons (e_call c_differences hr_differences pass0 (pa_cons (pv 0) (pa_cons (pv 1) pa_nil))) (pa_cons (pv 2) pa_nil))) (blkOk_by (N := N_swing_in) (sc := (defScope s_swing_in)) (by decide +kernel)) (fun _ _ _ _ _ => by exact (pg_tup rfl (pgs_cons (pgn 3 nd) (pgs_cons (pgn 4 nd) pgs_nil)))) (fun _ _ _ _ _ => by exact pts_nil) (fun _ _ _ _ _ => by exact (pe_op op_mul (pv 3) (pv 4)))) pa_nil)) (pv 0)))), ?_⟩
  obtain ⟨c, x, y, a, b, rfl, hx, hy, hc, h1, hl, hb, q⟩ := h
  have c0 := hc.pos
  have c1 := hc.le
  obtain ⟨ay, rfl, hay⟩ := dp_T' hy
  refine ⟨_, rfl, _, rfl, c, _, a, rfl, hx, hc, h1, hl, fun H1 v s1 hv => ?_⟩
  obtain ⟨av, rfl, hav⟩ := dp_T' hv
  have ld : (diffOf c a).length ≤ 1000 := by unfold diffOf; rw [List.length_map, List.length_range]; exact hl
  refine ⟨_, rfl, av, ay, _, _, rfl, .inr ⟨hav, same_tup s1 hay, fun D hD => ?_⟩⟩
  refine lc_val (walk_zipT rfl) (fun j => .int ((diffOf c a).getD j 0 * b.getD j 0)) hD ?_ (fun H' z => ⟨same_tup z hav, same_tup z (same_tup s1 hay)⟩) (fun j x Ha Hb N hj s3 _ y k => ?_) (fun H' s3 e4 => ?_)
  · rw [List.length_map, List.length_map]
    exact Nat.le_trans (by omega) (by decide : 1000 ≤ sizeLine)
  · obtain ⟨T, u, v, rfl, hT, rfl, e1, e2⟩ := y
    obtain ⟨x1, hx1, rfl⟩ := int_get e1
    obtain ⟨x2, hx2, rfl⟩ := int_get e2
    have z := k _ (same_upd (o := .tup [.int x1, .int x2]) hT)
    rw [getD_of hx1, getD_of hx2] at z
    have bz := hb x2 (List.mem_of_getElem? hx2)
    exact ⟨T, _, rfl, .of upd_same, rfl, _, _, rfl, _, _, rfl, rfl, rfl, _, rfl, _, rfl, _, _, rfl, rfl, .inr ⟨by omega, by omega⟩, z⟩
  · have z := zip_range_getD (diffOf c a) b fun x y => x * y
    refine ⟨D, List.zipWith (fun x y => x * y) (diffOf c a) b, rfl, .of ?_, _, rfl, _, _, rfl, rfl, c0, q _ (s1.trans s3)⟩
    rw [e4, ← z, List.map_map, List.length_map, List.length_map]
    rfl
end
end K61

set_option Elab.async false
set_option linter.all false
set_option maxRecDepth 100000
set_option maxHeartbeats 4000000
/-! The walks: a space's form, its upright rows. -/
namespace K61
open PySem PySem.Spec PyProof.Rows L2
/-- what the top has written of the class Space, at C -/
structure SpC (K : PySem.W.Frag) (mg : Str → Option Value) (C : Addr) : Prop where
  gC : mg "Space" = some (.ref C)
  cl : Cls K C
  n1 : NoAttr K C "clock"
  n2 : NoAttr K C "size"
  n3 : NoAttr K C "rows"
  n4 : NoAttr K C "depth"
/-- a Space object: its clock, size, rows -/
def SpaceAt (K : PySem.W.Frag) (H : Hp) (C : Addr) (v : V) (c : Int) (n : Nat) (rows : List (List Int)) : Prop :=
  ∃ a dx r, v = .ref a ∧ H a = some (.ins C dx [("clock", .int c), ("size", .int n), ("rows", .ref r), ("depth", .int rows.length)]) ∧ Dp K H (.ref r) (dTT rows)
theorem SpaceAt.same {K : PySem.W.Frag} {H H' : Hp} {C : Addr} {v : V} {c : Int} {n : Nat} {rows : List (List Int)} (s : Same H H') (h : SpaceAt K H C v c n rows) : SpaceAt K H' C v c n rows := by
  obtain ⟨a, dx, r, e, h1, h2⟩ := h
  exact ⟨a, dx, r, e, s _ _ h1, dp_same s h2⟩
abbrev s_form_of : Stmt := top 36
abbrev N_form_of : List Str := ["space", "row"]
theorem sc_form_of : FnScope N_form_of ["space"] (defScope s_form_of) := ⟨rfl, rfl, rfl, by decide +kernel, rfl, by decide +kernel, by decide +kernel⟩
abbrev s_upright_rows : Stmt := top 37
abbrev N_upright_rows : List Str := ["space", "form", "found", "at", "row", "lead", "each", "_", "place"]
theorem sc_upright_rows : FnScope N_upright_rows ["space"] (defScope s_upright_rows) := ⟨rfl, rfl, rfl, by decide +kernel, rfl, by decide +kernel, by decide +kernel⟩
def sp_form_of (K : PySem.W.Frag) (C : Addr) : Sp := fun vs H Q _ => ∃ x c n F, vs = [x] ∧ SpaceAt K H C x c n (F.map (·.2)) ∧ Clock c ∧ Red c n F ∧ n ≤ 1000 ∧ ∀ H' v, Same H H' → Dp K H' v (dF F) → Q v H'
def sp_upright_rows (K : PySem.W.Frag) (C : Addr) : Sp := fun vs H Q _ => ∃ x c n F, vs = [x] ∧ SpaceAt K H C x c n (F.map (·.2)) ∧ Clock c ∧ Red c n F ∧ n ≤ 1000 ∧ ∀ H' v, Same H H' → Dp K H' v (dLT (upRows c n F)) → Q v H'
section
variable {P : Program} {w : World} {K : PySem.W.Frag} {mg : Str → Option Value} {base : Heap} {f : Addr} {fd : FuncData} {C : Addr}
theorem ok_form_of (S : SpC K mg C) (c_lead_of : Cal P w K mg base CX0 1 "lead_of" ["row"] [] (sp_lead_of K)) (F : FnP K "form_of" s_form_of f fd) : FnOk P w K mg base CX0 2 f fd ["space"] (sp_form_of K C) := by
  have nd := sc_form_of.nd
  refine okN F sc_form_of (fun vs H Q E h => by obtain ⟨x, c, n, F, rfl, _⟩ := h; rfl) (fun cdv A outer s H vs Q E hr h => ?_)
  have hr_lead_of := hr
  refine ⟨_, (pss_one (ps_ret (pe_lc (own := [("row", 1)]) rfl nd (pi_tup (kFld K (pv 0) rfl)) (blkOk_by (N := N_form_of) (sc := (defScope s_form_of)) (by decide +kernel)) (fun _ _ _ _ _ => by exact (pgn 1 nd)) (fun _ _ _ _ _ => by exact pts_nil) (fun _ _ _ _ _ => by exact (pe_tup (pa_cons (e_call c_lead_of hr_lead_of pass0 (pa_cons (pv 1) pa_nil)) (pa_cons (pv 1) pa_nil))))))), ?_⟩
  obtain ⟨x, c, n, F, rfl, ⟨a, dx, r, rfl, ha, hr2⟩, hc, hF, hn, q⟩ := h
  obtain ⟨rr, vs, er, hrr, hvs⟩ := dp_tup' hr2
  cases er
  have el : vs.length = F.length := by rw [dpa_length hvs, List.length_map, List.length_map]
  refine ⟨_, rfl, a, C, dx, _, _, rfl, ha, S.cl, S.n3, rfl, r, rfl, ⟨_, hrr⟩, fun D hD => ?_⟩
  refine lc_data (K := K) (walk_tup (xs := vs)) (fun i => dP (F.getD i (0, []))) hD (by rw [el]; exact Nat.le_trans hF.len (Nat.le_trans hn (by decide))) (fun H' z => same_tup z hrr) (fun i u Ha Hb N hi s4 hacc y k => ?_) (fun H' xs s2 e hxs => ?_)
  · obtain ⟨rfl, hu⟩ := y
    obtain ⟨p2, hp2, hd⟩ := row_get (dpa_same s4 hvs) hu
    rw [List.getElem?_map] at hp2
    cases ep : F[i]? with
    | none =>
      rw [ep] at hp2
      cases hp2
    | some p =>
      rw [ep] at hp2
      cases hp2
      obtain ⟨acc, hacc⟩ := hacc
      obtain ⟨a1, rfl, ha1⟩ := dp_T' hd
      have pm : p ∈ F := List.mem_of_getElem? ep
      refine ⟨rfl, _, rfl, a1, p.2, rfl, ha1, fun H5 s5 => ⟨_, rfl, (by show 2 ≤ sizeLine; decide), fun T hT => ?_⟩⟩
      have s6 : Same H5 (upd H5 T (.tup [leadV (leadOf p.2), .ref a1])) := same_upd hT
      have D5 : H5 D = some (.lst acc) := s5 _ _ hacc
      have nT : T ≠ D := fun z => by rw [z, D5] at hT; cases hT
      refine k _ _ (s5.trans s6) ?_
      rw [List.getD_eq_getElem?_getD, ep]
      refine dp_P (l := p.1) (r := p.2) (y := .ref a1) (.of ?_) ?_
      · rw [del_ne nT, upd_same, red_lead hF p pm]
        rfl
      · exact dpT_del (dp_same (s5.trans s6) hd) (s6 _ _ D5)
  · have z := map_range_getD F (0, []) fun p => dP p
    rw [el, z] at hxs
    exact q _ _ s2 (.lst (.of e) (dpa_same same_del hxs))
theorem ok_upright_rows (B : Bi mg) (S : SpC K mg C) (c_form_of : Cal P w K mg base CX0 2 "form_of" ["space"] [] (sp_form_of K C)) (F : FnP K "upright_rows" s_upright_rows f fd) : FnOk P w K mg base CX0 3 f fd ["space"] (sp_upright_rows K C) := by
  have nd := sc_upright_rows.nd
  refine okN F sc_upright_rows (fun vs H Q E h => by obtain ⟨x, c, n, F, rfl, _⟩ := h; rfl) (fun cdv A outer s H vs Q E hr h => ?_)
  have hr_form_of := hr
  refine ⟨_, (pss_cons (ps_par (i := 1) (j := 2) rfl nd rfl rfl (by decide) rfl rfl (pa_cons (e_call c_form_of hr_form_of pass0 (pa_cons (pv 0) pa_nil)) (pa_cons (pe_lst pa_nil) pa_nil)) rfl)
      (pss_cons (ps_for PassesOwn.never rfl (pi_range1 rfl B.range (pa_cons (kFld K (pv 0) rfl) pa_nil)) (pgn 3 nd)
      (pss_cons (ps_if (pt_cmpR (kIn K) (pv 3) (pe_lc (g := gTup K 2 (gCons (gName 5) (gCons (gName 7) gNil))) (own := [("lead", 5), ("_", 7)]) rfl nd (pi_list (pv 1)) (blkOk_by (N := N_upright_rows) (sc := (defScope s_upright_rows)) (by decide +kernel)) (fun _ _ _ _ _ => by exact (pg_tup rfl (pgs_cons (pgn 5 nd) (pgs_cons (pgn 7 nd) pgs_nil)))) (fun _ _ _ _ _ => by exact pts_nil) (fun _ _ _ _ _ => by exact (pv 5))) rfl) (pss_one ps_continue) pss_nil)
      (pss_cons (ps_setLc (i := 4) (own := [("place", 8)]) rfl nd rfl rfl (sw_true rfl rfl rfl (by decide +kernel)) (pi_range1 rfl B.range (pa_cons (kFld K (pv 0) rfl) pa_nil)) (blkOk_by (N := N_upright_rows) (sc := (defScope s_upright_rows)) (by decide +kernel)) (fun _ _ _ _ _ => by exact (pgn 8 nd)) (fun _ _ _ _ _ => by exact pts_nil) (fun _ _ _ _ _ => by exact (pe_callTy call_int1 rfl B.int bt_int (pa_cons (pe_cmpR op_eq (pv 8) (pv 3) (nomark _)) pa_nil))))
      (pss_cons (ps_for PassesOwn.never rfl (pi_list (pv 1)) (pg_tup rfl (pgs_cons (pgn 5 nd) (pgs_cons (pgn 6 nd) pgs_nil)))
      (pss_one (ps_asg (pe_op op_mod (pe_un un_neg (pe_ix (kIxT K) (pv 6) (pv 3) (fun _ _ => rfl))) (kFld K (pv 0) rfl)) (pg_sub (pv 4) (pv 5) set_list))))
      (pss_one (ps_expr (pe_bm PySem.F.plainAttrs_list PySem.F.slot_list_append PySem.F.type_list_append mt_append (pv 2) (pa_cons (pe_callTy (kTup K) rfl B.tuple bt_tuple (pa_cons (pv 4) pa_nil)) pa_nil))))))))
      (pss_one (ps_ret (pv 2))))), ?_⟩
  obtain ⟨x, c, n, F, rfl, hx, hc, hF, hn, q⟩ := h
  have c0 := hc.pos
  have c1 := hc.le
  have n62 : (n : Int) < 2 ^ 62 := by omega
  refine ⟨_, rfl, x, c, n, F, rfl, hx, hc, hF, hn, fun H1 vF s1 hvF => ⟨(by show 0 ≤ sizeLine; decide), fun p hp => ⟨_, _, rfl, ?_⟩⟩⟩
  obtain ⟨a, dx, r, rfl, ha, hr2⟩ := hx
  obtain ⟨aF, vs, rfl, haF, hvs⟩ := dp_lst' hvF
  have el : vs.length = F.length := by rw [dpa_length hvs, List.length_map]
  have s2 : Same H1 (upd H1 p (.lst [])) := same_upd hp
  refine ⟨_, rfl, a, C, dx, _, _, rfl, s2 _ _ (s1 _ _ ha), S.cl, S.n2, rfl, (n : Int), rfl, by omega, n62, ?_⟩
  have tn : ((n : Int)).toNat = n := by omega
  rw [tn]
  refine for_it (walk_r0 (n := n)) (fun i σ H' => Same H1 H' ∧ (∃ acc, H' p = some (.lst acc) ∧ DpAll K (del H' p) acc ((((List.range i).filter fun a => !isLead F a).map (upRow c n F)).map dT)) ∧ ∃ x1 x2 x3 x4 x5 x6, σ = [some (.ref a), some (.ref aF), some (.ref p), x1, x2, x3, x4, x5, x6])
    ⟨s2, ⟨[], upd_same, .nil⟩, _, _, _, _, _, _, rfl⟩ (fun _ _ _ _ _ => trivial) ?_ ?_
  · rintro i u σ Ha Hb hi ⟨s3, ⟨acc, eacc, hacc⟩, x1, x2, x3, x4, x5, x6, rfl⟩ ⟨rfl, rfl⟩
    -- at in [lead for lead, _ in form]
    refine ⟨_, rfl, _, rfl, aF, rfl, ⟨_, s3.seq haF⟩, fun D hD => ?_⟩
    refine lc_val (walk_list (xs := vs)) (fun j => .int ((F.getD j (0, [])).1 : Nat)) hD (by rw [el]; exact Nat.le_trans hF.len (Nat.le_trans hn (by decide))) (fun H' z => (s3.trans z).seq haF) (fun j u Hc Hd N hj s4 _ y k => ?_) (fun H' s4 e => ?_)
    · obtain ⟨rfl, hu⟩ := y
      obtain ⟨pp, hpp, hd⟩ := pair_get (dpa_same (s3.trans s4) hvs) hu
      obtain ⟨a1, y, rfl, ha1, hy1⟩ := dp_P' hd
      have z := k Hd (Same.refl _)
      rw [List.getD_eq_getElem?_getD, hpp] at z
      exact ⟨a1, _, rfl, ha1, rfl, _, _, rfl, _, _, rfl, rfl, rfl, _, rfl, z⟩
    · have z := map_range_getD F (0, []) fun p : Nat × List Int => V.int (p.1 : Nat)
      rw [el, z] at e
      have einv : inV (.int (i : Int)) (F.map fun p => V.int (p.1 : Nat)) = isLead F i := by
        unfold inV isLead
        rw [List.any_map]
        refine congrArg (List.any F) ?_
        funext p
        show eqV (.int (p.1 : Nat)) (.int (i : Int)) = decide (p.1 = i)
        simp [eqV, Bool.beq_eq_decide_eq]
        omega
      refine ⟨D, _, rfl, .inl (.of e), rfl, by simp [flatV], _, rfl, ?_⟩
      simp only [Bool.false_eq_true, if_false]
      rw [einv]
      have s34 := s3.trans s4
      have hacc4 := dpa_same (same_dels s4 p) hacc
      have eacc4 := s4 _ _ eacc
      cases lead : isLead F i with
      | true =>
        refine iteT ⟨s34, ⟨acc, eacc4, ?_⟩, _, _, _, _, _, _, rfl⟩
        rw [List.range_succ, List.filter_append]
        simp [lead]
        simpa using hacc4
      | false =>
        refine iteF ?_
        -- row = [int(place == at) for place in range(space.size)]
        refine ⟨_, rfl, a, C, dx, _, _, rfl, s34 _ _ (s1 _ _ ha), S.cl, S.n2, rfl, (n : Int), rfl, by omega, n62, fun R hR => ?_⟩
        rw [tn]
        refine lc_val (walk_r0 (n := n)) (fun pl => .int (if pl = i then 1 else 0)) hR (Nat.le_trans hn (by decide)) (fun _ _ => trivial) (fun j u Hc Hd N hj s5 _ y k => ?_) (fun H5 s5 e5 => ?_)
        · obtain ⟨rfl, rfl⟩ := y
          have z := k Hd (Same.refl _)
          refine ⟨rfl, _, rfl, _, rfl, rfl, .inr ⟨_, rfl, ?_⟩⟩
          by_cases hji : j = i
          · rw [if_pos hji] at z
            rw [hji, decide_eq_true rfl]
            exact z
          · rw [if_neg hji] at z
            have e0 : decide (V.int (j : Int) = V.int (i : Int)) = false := by simp; omega
            rw [e0]
            exact z
        · -- for lead, each in form: row[lead] = -each[at] % space.clock
          have s345 := s34.trans s5
          refine ⟨_, rfl, aF, rfl, ⟨_, s345.seq haF⟩, ?_⟩
          have nRp : p ≠ R := ne_of_none eacc4 hR
          refine for_it (walk_list (xs := vs)) (fun j σ H' => Same H' H' ∧ Same (del H5 R) (del H' R) ∧ H' R = some (.lst (((F.take j).foldl (fun row p => row.set p.1 (-(p.2.getD i 0) % c)) ((List.range n).map fun pl => if pl = i then 1 else 0)).map V.int)) ∧ ∃ x3 x4 x5 x6, σ = [some (.ref a), some (.ref aF), some (.ref p), some (.int i), some (.ref R), x3, x4, x5, x6])
            ⟨Same.refl _, Same.refl _, ?_, _, _, _, _, rfl⟩ (fun j σ H' _ z => ?_) ?_ ?_
          · rw [e5, List.take_zero, List.foldl_nil, List.map_map]
            refine congrArg (fun l => some (HO.lst l)) (List.map_congr_left fun pl _ => ?_)
            show V.int (if pl = i then 1 else 0) = V.int (if pl = i then 1 else 0)
            rfl
          · have z2 : Same H' H' := Same.refl _
            exact ((same_under s5 hR).trans (z.2.1.trans same_del)).seq ((s3.trans s4).seq haF)
          · rintro j u σ Hc Hd hj ⟨_, s6, eR, y3, y4, y5, y6, rfl⟩ ⟨rfl, hu⟩
            have s6' : Same H' Hd := (same_under s5 hR).trans (s6.trans same_del)
            obtain ⟨pp, hpp, hd⟩ := pair_get (dpa_same (s34.trans s6') hvs) hu
            obtain ⟨a1, y, rfl, ha1, hy1⟩ := dp_P' hd
            obtain ⟨a2, rfl, ha2⟩ := dp_T' hy1
            have pm : pp ∈ F := List.mem_of_getElem? hpp
            have okp := hF.row pp pm
            refine ⟨a1, _, rfl, ha1, rfl, _, _, rfl, _, _, rfl, rfl, ?_⟩
            refine ⟨_, rfl, _, rfl, a2, _, _, _, rfl, rfl, ha2, atI_nat (map_int_get pp.2 (by rw [okp.1]; exact hi)), _, rfl, _, rfl, a, C, dx, _, _, rfl, s6' _ _ (s34 _ _ (s1 _ _ ha)), S.cl, S.n1, rfl, _, _, rfl, rfl, c0, ?_⟩
            have hlt := hF.lt pp pm
            have llen : ((F.take j).foldl (fun row p => row.set p.1 (-(p.2.getD i 0) % c)) ((List.range n).map fun pl => if pl = i then 1 else 0)).length = n := by rw [upRow_len, List.length_map, List.length_range]
            refine ⟨_, rfl, _, rfl, R, _, _, pp.1, rfl, rfl, eR, ?_, Same.refl _, ?_, ?_, _, _, _, _, rfl⟩
            · unfold ixN
              rw [List.length_map, llen, if_pos (by omega), if_pos (by omega)]
              rfl
            · rw [del_upd]
              exact s6
            · rw [upd_same, take_snoc hpp, List.foldl_append, List.foldl_cons, List.foldl_nil, List.map_set]
          · rintro σ Hc ⟨_, s6, eR, y3, y4, y5, y6, rfl⟩
            rw [el, List.take_length] at eR
            have s6' : Same H' Hc := (same_under s5 hR).trans (s6.trans same_del)
            have accC : Hc p = some (.lst acc) := s6' _ _ eacc4
            refine ⟨_, rfl, .inl ⟨rfl, _, .of accC⟩, _, rfl, R, _, rfl, .inl ⟨.of eR, fun T hT => ?_⟩⟩
            have s7 : Same Hc (upd Hc T (.tup ((F.foldl (fun row p => row.set p.1 (-(p.2.getD i 0) % c)) ((List.range n).map fun pl => if pl = i then 1 else 0)).map V.int))) := same_upd hT
            have nT : p ≠ T := ne_of_none accC hT
            have lacc : acc.length ≤ i := by
              rw [dpa_length hacc, List.length_map, List.length_map]
              exact Nat.le_trans (List.length_filter_le _ _) (by rw [List.length_range]; exact Nat.le_refl _)
            refine ⟨p, acc, _, rfl, rfl, s7 _ _ accC, Nat.lt_of_le_of_lt lacc (Nat.lt_of_lt_of_le hi (Nat.le_trans hn (by decide))), ?_, ⟨_, upd_same, ?_⟩, _, _, _, _, _, _, rfl⟩
            · intro b o e
              rw [upd_ne (ne_of_none e hp)]
              exact s7 _ _ (s6' _ _ (s34 _ _ e))
            · rw [del_upd, List.range_succ, List.filter_append]
              simp only [List.filter_cons, List.filter_nil, lead, Bool.not_false, if_true, List.map_append, List.map_cons, List.map_nil]
              refine dpa_snoc ?_ (dpa_same (same_dels (s6'.trans s7) p) hacc4)
              refine dp_T (.of ?_)
              rw [del_ne (Ne.symm nT)]
              exact upd_same
  · rintro σ Ha ⟨s3, ⟨acc, eacc, hacc⟩, x1, x2, x3, x4, x5, x6, rfl⟩
    exact ⟨_, rfl, q _ _ (s1.trans s3) (.lst (.of eacc) (dpa_same same_del hacc))⟩
end
end K61

set_option Elab.async false
set_option linter.all false
set_option maxRecDepth 100000
set_option maxHeartbeats 4000000
namespace K61
open PySem PySem.W PySem.Calls PyProof.Rows PySem.HandSPX Builtin Builtin.ObjectAttr Builtin.Getset_descriptor
theorem own_dga (d tp : Value) (C : Addr) : descrGetArgs ⟨[d, .ref C, tp], []⟩ = pure (d, some (.ref C), given tp) := by kernel_rfl
theorem own_find (K : Frag) (C : Addr) : findCls K (.ref C) (.type "type") "__name__" = some (.get (.builtin "getset_descriptor.__get__") (.builtin "type.__name__") (.ref C) (.type "type")) := by kernel_rfl
section
variable {prog : Program} {w : World} {A : Around} {E : Value → Shared → Prop} {s : Shared} {K : Frag} {R : Result → Shared → Prop} {C D x : Addr} {ox : Obj}
/-- C.__name__, a class of one's own that holds its name -/
theorem own_name {oc : Obj} {v tp : Value} (ho : s.heap.get? C = some oc) (hc : oc.cls = .type "type") (h2 : oc.slots[2]? = some (some v)) (h : R (.ok (.ret v)) s) :
    codeAny (model prog w) A (.call (.builtin "getset_descriptor.__get__") ⟨[.builtin "type.__name__", .ref C, tp], []⟩) R s := by
  obtain ⟨hh, g, dr, t, os⟩ := s
  have L0 : Looks (model prog w) hh (typeOf (.ref C)) (.type "type") := fun A Q E s k q => wpAny_typeOf (show Shared.TypeIs s (.ref C) "type" from ⟨oc, k _ _ ho, hc⟩) q
  have L1 : Looks (model prog w) hh (isSubtype (.type "type") (.type "type")) true := Looks.of_pure (by rw [isSubtype_type]; kernel_rfl)
  refine codeAny_call_builtin KF.slot_gs.plain KF.entry_gs (KF.slot_gs.check _ _ _ _ _ _ _ _ ktyn_type (KF.args_gs _ _ _) ?_)
  unfold Builtin.«getset_descriptor.__get__» descrGet
  rw [own_dga]
  refine wpAny_bind (wpAny_pure ?_)
  unfold descrGetter descrCheckInstance descrNameAndClass isInstance
  simp only [ktyn_owner]
  repeat lk
  refine ⟨Code.quiet_builtin _ (by decide +kernel), codeAny_builtin ktyn_entry ?_⟩
  unfold Builtin.«type.__name__»
  dsimp only
  unfold Builtin.keptObject
  dsimp only
  unfold slotAt
  repeat (first | (with_reducible refine wpAny_loadPart_at ho ?_) | (rw [h2]) | wp_step)
  exact h
theorem own_attr {oc : Obj} {v : Value} {expr : Bool} {Q : Value → Shared → Prop} (X : K.In s.heap) (ho : s.heap.get? C = some oc) (hc : oc.cls = .type "type") (h2 : oc.slots[2]? = some (some v)) (hv : handedIn v = true) (op : nsIn K cStatics "thirdparty.any" = some none)
    (h : ∀ u, Q v { s with toks := u }) : wpAny (model prog w) A (getAttr (.ref C) "__name__" expr) Q E s := by
  have L0 : Looks (model prog w) s.heap (typeOf (.ref C)) (.type "type") := fun A Q E s k q => wpAny_typeOf (show Shared.TypeIs s (.ref C) "type" from ⟨oc, k _ _ ho, hc⟩) q
  have hg : findIn K (.type "type") "__getattribute__" = some (some (.builtin "type.__getattribute__")) := type_tga
  refine cls_open X (looks_opaque X op) L0 hg (looks_hook X (r := none) (by rfl)) (by show subIn K _ _ = _; rfl) (own_find K C) ?_
  show wpAny _ _ (do ret (← holding [Value.builtin "type.__name__"] (call (.builtin "getset_descriptor.__get__") [.builtin "type.__name__", .ref C, .type "type"]))) _ _ _
  refine wpAny_bind (wpAny_holding (wpAny_call (own_name (s := { s with toks := s.toks + 1 }) ho hc h2 ?_)))
  refine wpAny_pure ?_
  show wpAny _ _ (handedOut v) _ _ _
  rw [handedOut_of hv]
  exact wpAny_pure (h _)
/-- e.__class__, e an exception of a class of one's own -/
theorem exc_cls {expr : Bool} {Q : Value → Shared → Prop} (hga : findIn K (.ref D) "__getattribute__" = some (some (.builtin "BaseException.__getattribute__"))) (hgt : findIn K (.ref D) "__getattr__" = some none) (hsub : subIn K (.ref D) (.type "BaseException") = some true)
    (hdct : hasDictIn K D = true) (ha : findIn K (.ref D) "__class__" = some (some (.builtin "object.__class__")))
    (hn : specialIn K (.builtin "object.__class__") "__get__" = some (some (.builtin "getset_descriptor.__get__"))) (htk : takesIn K (.builtin "object.__class__") = some true) (hm : mroIn K D (.type "object") = some true)
    (X : K.In s.heap) (I : InstAt s.heap x ox D none) (h : Q (.ref D) { s with toks := s.toks + 1 }) : wpAny (model prog w) A (getAttr (.ref x) "__class__" expr) Q E s := by
  have hf : findObj K D none "__class__" = some (.bind (.builtin "getset_descriptor.__get__") (.builtin "object.__class__")) := findObj_dataN (by obtain ⟨cd, hc, _⟩ := any_some hdct; rw [hc]; rfl) ha hn htk
  obtain ⟨hp, g, d, t, os⟩ := s
  have T0 := I.type (M := model prog w)
  have T1 := looks_findIn (M := model prog w) X hga
  have T2 := looks_findIn (M := model prog w) X hgt
  have T3 := looks_find (M := model prog w) X I hf
  have sub : Looks (model prog w) hp (isInstance (.ref x) (.type "BaseException")) true := T0.andThen (looks_subIn X hsub)
  have e2 : (Value.builtin "BaseException.__getattribute__" == Value.builtin "object.__getattribute__") = false := by decide +kernel
  have e1 : (onTheHeap (Value.ref D) && Value.builtin "BaseException.__getattribute__" == Value.builtin "object.__getattribute__") = false := by rw [e2, Bool.and_false]
  have e0 : (expr && onTheHeap (Value.builtin "BaseException.__getattribute__")) = false := Bool.and_false _
  unfold getAttr getAttrBy
  refine wpAny_bind (wpAny_mkText (wpAny_holding (wpAny_bind (T0.at (wpAny_bind (T1.at ?_))))))
  dsimp only
  rw [e1, if_neg Bool.false_ne_true]
  unfold getAttrByItsOwn hookBefore
  rw [if_pos (show onTheHeap (Value.ref D) = true from rfl)]
  refine wpAny_bind (T2.at (wpAny_bind (wpAny_attempt (wpAny_holding ?_))))
  unfold callGetattribute boundAndCalled
  rw [e0, if_neg Bool.false_ne_true, PySem.F.excAttr_ValueError.ga.bind (.ref x)]
  refine wpAny_bind (wpAny_pure ?_)
  show wpAny _ _ (call (.builtin "BaseException.__getattribute__") [.ref x, .str "__class__" t]) _ _ _
  refine wpAny_call (codeAny_call_builtin PySem.F.excAttr_ValueError.ga.plain PySem.F.entry_bexc_ga ?_)
  refine @check_slot (model prog w) _ _ ⟨hp, g, d, t + 1, os⟩ "BaseException.__getattribute__" "BaseException" "__getattribute__" (.ref x) [.str "__class__" t] [] _ (by decide +kernel) (by decide +kernel) sub (PySem.F.args_bexc_ga (.ref x) (.str "__class__" t)) ?_
  unfold Builtin.«object.__getattribute__»
  refine wpAny_bind (wpAny_of_eq (a := ((Value.ref x : Value), [Value.str "__class__" t])) (by first | rfl | (simp only [slotArgs]; rfl)) ?_)
  refine wpAny_bind (wpAny_pure (wpAny_bind (T0.at (wpAny_bind (T3.at ?_)))))
  show wpAny _ _ (holding [Value.builtin "object.__class__"] (call (.builtin "getset_descriptor.__get__") [.builtin "object.__class__", .ref x, .ref D]) >>= ret) _ _ _
  refine wpAny_bind (wpAny_holding (wpAny_call (class_get (s := ⟨hp, g, d, t + 1, os⟩) (ox := ox) (od := none) X I hm ?_)))
  refine wpAny_pure ?_
  show wpAny _ _ (handedOut (.ref D)) _ _ _
  rw [handedOut_of (v := .ref D) rfl]
  exact wpAny_pure h
end
/-- o.m(e) where the name's end and the call stand on one line -/
theorem mc_eq {o e : Expr} {name : Str} {apos pos : Pos} {env : Env} (hl : (apos.endLine == pos.line) = true) (hf : methodCallForm 1 (backTo pos (starEach [e] env)) (backToKw pos (keywordEach [] env)) = true) :
    eval (.Call (.Attribute o name apos) [e] [] pos) env = (do
      let ov ← attributeBase o name env (eval o env)
      standAt apos.atName
      let (f, first) ← holding [ov] (getMethod ov name (do return (← importBound o env).getD true))
      callWith pos f first (backTo pos (starEach [e] env)) []) := by
  rw [arm_eval_Call]
  unfold methodCall
  have h1 : methodCallForm (([e] : List Expr).length + ([] : List Keyword).length) (backTo pos (starEach [e] env)) (backToKw pos (keywordEach [] env)) = true := hf
  rw [h1]
  have h2 : methodCallPos true o env apos pos = pure pos := by
    unfold methodCallPos
    rw [hl]
    rfl
  rw [h2]
  rfl
/-! ### the __init__ of the package's errors -/
def xA (p1 p2 : Pos) : Arguments := { posonlyargs := [], args := [{ arg := "self", annotation := none, pos := p1 }, { arg := "part", annotation := none, pos := p2 }], vararg := none, kwonlyargs := [], kw_defaults := [], kwarg := none, defaults := [] }
def xB (q : Nat → Pos) : List Stmt :=
  [.Expr (.Call (.Attribute (.Call (.Name "super" (q 0)) [] [] (q 1)) "__init__" (q 2)) [.Attribute (.Attribute (.Name "self" (q 3)) "__class__" (q 4)) "__name__" (q 5)] [] (q 6)) (q 7), .Assign [.Attribute (.Name "self" (q 8)) "part" (q 9)] (.Name "part" (q 10)) (q 11)]
def xS : Scope := { kind := .function, names := [(PySem.Str.ofString "self", .local), (PySem.Str.ofString "part", .local), (PySem.Str.ofString "__class__", .free), (PySem.Str.ofString "super", .globalImplicit)], isGenerator := false, isCoroutine := false, more := [] }
/-- what the written part says of an error class nm, at C, and of its __init__, at fI -/
structure ExTxt (P : Program) (K : Frag) (mg : Str → Option Value) (nm ql : Str) (C fI : Addr) : Prop where
  gC : mg nm = some (.ref C)
  cls : ∃ q N bs bm sn sub ab col dd k0 k1 t2 k3 k5, K.lookup C = some (excClassObj nm q C N bs bm true sn sub ab col dd k0 k1 (some (.str nm t2)) k3 k5 "ValueError.__new__") ∧ refsVE bm = true
  sa : findIn K (.ref C) "__setattr__" = some (some (.builtin "object.__setattr__"))
  ga : findIn K (.ref C) "__getattribute__" = some (some (.builtin "BaseException.__getattribute__"))
  gg : findIn K (.ref C) "__getattr__" = some none
  noN : findIn K (.ref C) "part" = some none
  iC : findIn K (.ref C) "__init__" = some (some (.ref fI))
  tC : typeIn K (.ref fI) = some (.type "function")
  kC : keepIn K (.ref C) = true
  exC : subIn K (.ref C) (.type "BaseException") = some true
  tyC : typeIn K (.ref C) = some (.type "type")
  hdC : hasDictIn K C = true
  ca : findIn K (.ref C) "__class__" = some (some (.builtin "object.__class__"))
  cn : specialIn K (.builtin "object.__class__") "__get__" = some (some (.builtin "getset_descriptor.__get__"))
  ct : takesIn K (.builtin "object.__class__") = some true
  cm : mroIn K C (.type "object") = some true
  op : nsIn K cStatics "thirdparty.any" = some none
  su : ks_superIn K C C "__init__" = some (some (.builtin "ValueError.__init__"))
  sv : subIn K (.ref C) (.type "ValueError") = some true
  ms : mroIn K C (.ref C) = some true
  ls : mg "super" = none
  ps : (P.main.scope.names.lookup ("super" : Str)).isSome = false
  fn : ∃ (oc doc pm ctu : Value) (od an : Option Addr) (osl : Array (Option Value)) (cda cc : Addr) (p1 p2 : Pos) (q : Nat → Pos) (vs : Array Value) (file : Str) (tf : Tok) (o1 o2 : Obj),
    K.lookup fI = some ⟨oc, od, .func (ksFn "__init__" ql (xA p1 p2) (xB q) xS .none .none doc pm an (.ref cda) ctu cc), osl⟩ ∧ codeIn K (.ref cda) ql = true ∧ K.lookup cc = some o1 ∧ o1.data = .cell (some (.ref C)) ∧ K.lookup cda = some o2 ∧ o2.data = .fields vs ∧ vs[2]? = some (.str file tf) ∧ ((P.main.file : Str) == file) = true ∧ ((q 2).endLine == (q 6).line) = true
/-- what __init__ leaves of a fresh error at x -/
structure XEnd (h h' : Heap) (x C dx t1 : Addr) (v : Value) : Prop where
  keep : ∀ b o, b ≠ x → h.get? b = some o → h'.get? b = some o
  obj : h'.get? x = some { cls := .ref C, dict := some dx, data := .fields #[.ref t1, .none, .none, .none, .bool false, .none] }
  dbig : h.objs.size ≤ dx
  dne : dx ≠ x
  ns : h'.Ns1 dx (fun y => if y = "part" then some v else none)
/-- a made error -/
structure XMade (h h' : Heap) (e C d : Addr) (v : Value) : Prop where
  keep : ∀ b o, h.get? b = some o → h'.get? b = some o
  new : h.objs.size ≤ e
  obj : ∃ oe vs, h'.get? e = some oe ∧ oe.cls = .ref C ∧ oe.dict = some d ∧ oe.data = .fields vs ∧ vs[1]? = some .none
  dbig : h.objs.size ≤ d
  dne : d ≠ e
  ns : h'.Ns1 d (fun y => if y = "part" then some v else none)
/-- the module's names and the built-ins, as the heap holds them -/
structure Glob (mg : Str → Option Value) (h : Heap) : Prop where
  g : h.Ns mainGlobals mg
  b : ∃ mb, h.Ns builtinsNs mb ∧ ∀ x : Str, x ≠ "__name__" → mb x = bootBuiltins x
section
variable {prog : Program} {w : World} {A : Around} {E : Value → Shared → Prop} {R : Result → Shared → Prop} {h : Heap} {g : Array GenState} {d : Drawn} {t : Nat} {os : OsState}
/-- super().__init__(..) called on a fresh error: the args are laid anew -/
theorem call_mw {nm q : Str} {C N e u t0 : Addr} {bs bm : List Value} {hdct : Bool} {sn : List Str} {sub : List Value} {ab : Bool} {col : Option Bool} {dd : Option Addr} {k0 k1 k2 k3 k5 : Option Value} {rest : List Value} {Q : Value → Shared → Prop}
    (hC : h.get? C = some (excClassObj nm q C N bs bm hdct sn sub ab col dd k0 k1 k2 k3 k5 "ValueError.__new__")) (he : h.get? e = some (HandSPX.excO C t0)) (hu : h.get? u = some (kxs_mw "ValueError.__init__" e)) (hrest : rest.length ≤ sizeLine)
    (hq : ∀ h' t1, (∀ b o, b ≠ e → h.get? b = some o → h'.get? b = some o) → h'.get? e = some (HandSPX.excO C t1) → Q .none ⟨h', g, d, t, os⟩) :
    wpAny (model prog w) A (call (.ref u) rest) Q E ⟨h, g, d, t, os⟩ := by
  refine wpAny_call (codeAny_of_tree ?_)
  show wpAny _ A.in1 (callAny (.ref u) ⟨rest, []⟩) _ _ _
  unfold callAny
  refine wpAny_bind (wpAny_load hu ?_)
  simp only [kxs_mw, show (Value.type "method-wrapper" == Value.type "method" || Value.type "method-wrapper" == Value.type "builtin_function_or_method" || Value.type "method-wrapper" == Value.type "method-wrapper") = true by decide, if_true]
  refine KFB.if_so (by decide) ?_
  refine wpAny_bind (check_bound_init F.excBase_ValueError.toExcCallFacts hC he rfl ?_)
  refine wpAny_bind (wpAny_pure (wpAny_pure ?_))
  refine ⟨plainId_quiet F.excBase_ValueError.init.plain _, codeAny_builtin F.excBase_ValueError.initEntry ?_⟩
  rw [Around.under_plainId F.excBase_ValueError.init.plain _]
  wp_walk
  refine hq _ h.objs.size (fun b o hb ho => ?_) ?_
  · rw [Heap.get?_update_other _ _ (Ne.symm hb)]
    exact Heap.get?_push_of_some _ ho
  · rw [Heap.get?_update_self _ (Heap.get?_push_of_some _ he) rfl]
    rfl
end
section
variable {prog : Program} {w : World} {A : Around} {E : Value → Shared → Prop} {R : Result → Shared → Prop} {s : Shared} {K : Frag} {mg : Str → Option Value} {nm ql : Str} {C fI : Addr}
theorem x_init (T : ExTxt prog K mg nm ql C fI) {x t0 : Addr} {v : Value} (X : K.In s.heap) (hlim : s.heap.NoLimit) (G : Glob mg s.heap) (hx : s.heap.get? x = some (HandSPX.excO C t0)) (hnx : K.lookup x = none) (hroom : A.depth < recursionLimit)
    (hq : ∀ h' tk dx t1, XEnd s.heap h' x C dx t1 v → R (.ok (.ret .none)) { s with heap := h', toks := tk }) :
    codeAny (model prog w) A (.call (.ref fI) ⟨[.ref x, v], []⟩) R s := by
  obtain ⟨oc, doc, pm, ctu, od, an, osl, cda, cc, p1, p2, q, vs, file, tf, o1, o2, ho, hcd, l1, d1, l2, d2, hvs, hfile, hline⟩ := T.fn
  obtain ⟨qn, N, bs, bm, sn, sub, ab, col, dd, k0, k1, t2, k3, k5, hC, hbm⟩ := T.cls
  have hcl : clsIn K C = some { name := nm, bases := bs, mro := .ref C :: bm, ns := N, qualname := qn, hasDict := true, slotNames := sn, subclasses := sub, abstract := ab, collection := col, hasDel := false } := by unfold clsIn; rw [hC] <;> rfl
  have xne : s.heap.objs.size ≠ x := Nat.ne_of_gt (Heap.lt_size hx)
  refine ks_codeAny_call_defAt (binds := [("self", .ref x), ("part", v)]) hroom (X _ _ ho) rfl hlim (codeRec_of X hcd) rfl (BindsTo.of_eq (by first | rfl | with_unfolding_all rfl)) (by show ∀ x ∈ xS.names, x.2 ≠ .cell; decide) (fun y hy => ?_) (fun h₁ hns kp => ?_) rfl rfl rfl
  · rcases List.mem_cons.mp hy with rfl | hy
    · rfl
    · rcases List.mem_cons.mp hy with rfl | hy
      · rfl
      · cases hy
  · have X₁ : K.In h₁ := X.keeps kp
    have hx₁ := kp _ _ hx
    obtain ⟨mb, hb1, hb2⟩ := G.b
    have I₁ : InstAt h₁ x (excO C t0) C none := ⟨hx₁, rfl, rfl, trivial⟩
    have nC : x ≠ C := ks_ne X₁ I₁ hcl
    refine ks_wpAt_execs_cons (ks_wpAt_Expr_any (ks_wpAt_MethodCall (he := mc_eq hline rfl) ?_))
    refine ks_wpAt_super_base rfl rfl rfl rfl (kp _ _ (X _ _ ho)) rfl rfl rfl (kp _ _ (X _ _ l2)) d2 hvs hfile T.ps ?_
    refine ks_loadName_global rfl rfl (loadGlobal_builtin (G.g.keeps kp) T.ls (hb1.keeps kp) ((hb2 _ (by decide)).trans (by decide +kernel)) ⟨rfl, ?_⟩)
    refine wpAny_loadName_free rfl rfl rfl ⟨_, kp _ _ (X _ _ l1), d1⟩ ?_
    refine wpAny_loadName_local rfl rfl hns (v := .ref x) rfl ?_
    refine ks_wpAny_isType_cls (X₁ _ _ hC) rfl ⟨rfl, ?_⟩
    refine ks_wpAny_call_super (X₁ _ _ hC) rfl hx₁ rfl (fun c z => nomatch z) (looks_mroIn X₁ T.ms) (fun h₂ hso k2 => ?_)
    have X₂ : K.In h₂ := X₁.keeps k2
    have hx₂ := k2 _ _ hx₁
    have I₂ : InstAt h₂ x (excO C t0) C none := ⟨hx₂, rfl, rfl, trivial⟩
    have su := T.su
    unfold ks_superIn at su
    rw [hcl] at su
    refine kxs_getMethod kxs_ValueError hso (looks_opaque X₂ T.op) (l₀ := .ref C :: bm) ?_ rfl X₂ su (I₂.type.andThen (looks_subIn X₂ T.sv)) nC (by decide) ?_
    · exact fun A Q E s k q => wpAny_bind ((looks_clsIn X₂ hcl) A _ E s k (wpAny_pure q))
    have k3 : ∀ b o, h₂.get? b = some o → (h₂.push (kxs_mw "ValueError.__init__" x)).get? b = some o := fun b o e => Heap.get?_push_of_some _ e
    have hu : (h₂.push (kxs_mw "ValueError.__init__" x)).get? h₂.objs.size = some (kxs_mw "ValueError.__init__" x) := Heap.get?_push_size _ rfl
    generalize h₂.push (kxs_mw "ValueError.__init__" x) = h₃ at k3 hu ⊢
    generalize h₂.objs.size = u at hu ⊢
    have X₃ : K.In h₃ := X₂.keeps k3
    have hx₃ := k3 _ _ hx₂
    have I₃ : InstAt h₃ x (excO C t0) C none := ⟨hx₃, rfl, rfl, trivial⟩
    have ns₃ := (hns.keeps k2).keeps k3
    refine kxs_callWith (i := "ValueError.__init__") (x := x) rfl (evalArgs_plain ?_)
    refine Calls.spliced_cons (L2.attr_of rfl (L2.attr_of rfl (wpAny_Name (wpAny_loadName_local rfl rfl ns₃ (v := .ref x) rfl ?_) (by decide))))
    refine exc_cls T.ga T.gg T.exC T.hdC T.ca T.cn T.ct T.cm X₃ I₃ ?_
    refine own_attr (s := _) X₃ (X₃ _ _ hC) rfl rfl rfl T.op (fun tk => Calls.spliced_nil ⟨hu, ?_⟩)
    refine call_mw (X₃ _ _ hC) hx₃ hu (by show 1 ≤ sizeLine; decide) (fun h₄ t1 k4 hx₄ => ?_)
    -- self.part = part
    have X₄ : K.In h₄ := fun b o e => k4 b o (fun z => by rw [z, hnx] at e; cases e) (X₃ b o e)
    have k14 : ∀ b o, b ≠ x → h₁.get? b = some o → h₄.get? b = some o := fun b o hb e => k4 b o hb (k3 b o (k2 b o e))
    have ns₄ : h₄.Ns s.heap.objs.size (fun y => ([("self", Value.ref x), ("part", v)] : List (Str × Value)).reverse.lookup y) := by
      obtain ⟨o, es, ep, ho, r⟩ := hns
      exact ⟨o, es, ep, k14 _ _ xne ho, r⟩
    refine wpAt_of_wpAny (wpAny_execs_cons (plainObj_wpAny_Assign_Attribute ?_))
    refine wpAny_Name (wpAny_loadName_local rfl rfl ns₄ (v := v) rfl (wpAny_Name (wpAny_loadName_local rfl rfl ns₄ (v := .ref x) rfl ?_) (by decide))) (by decide)
    refine set_plain X₄ (ox := excO C t1) (od := none) ⟨hx₄, rfl, rfl, trivial⟩ T.sa ?_
    refine exc_osa X₄ hx₄ hcl (show refsVE (.ref C :: bm) = true from hbm) rfl T.noN (fun h₅ tk₅ dx k₅ dn dne hx₅ hn₅ => ?_)
    refine wpAny_execs_nil (hq h₅ _ dx t1 ⟨fun b o hb e => k₅ b o hb (k14 b o hb (kp b o e)), hx₅, ?_, dne, hn₅⟩)
    have z : s.heap.objs.size < h₄.objs.size := ns₄.lt
    exact Nat.le_trans (Nat.le_of_lt z) dn
/-- C(v): a new error with its part -/
theorem x_made (T : ExTxt prog K mg nm ql C fI) {v : Value} (X : K.In s.heap) (hlim : s.heap.NoLimit) (G : Glob mg s.heap) (hroom : A.depth + 1 < recursionLimit)
    (hq : ∀ h' tk e d, XMade s.heap h' e C d v → R (.ok (.ret (.ref e))) { s with heap := h', toks := tk }) :
    codeAny (model prog w) A (.call (.ref C) ⟨[v], []⟩) R s := by
  obtain ⟨qn, N, bs, bm, sn, sub, ab, col, dd, k0, k1, t2, k3, k5, hC, hbm⟩ := T.cls
  obtain ⟨hp, g, dr, tk, os⟩ := s
  have k : ∀ b o, hp.get? b = some o → ((hp.push (kdv_tup [v])).push (excO C hp.objs.size)).get? b = some o := fun b o e => Heap.get?_push_of_some _ (Heap.get?_push_of_some _ e)
  have hget : ((hp.push (kdv_tup [v])).push (excO C hp.objs.size)).get? (hp.objs.size + 1) = some (excO C hp.objs.size) := by heap_get
  have hnx : K.lookup (hp.objs.size + 1) = none := by
    cases e : K.lookup (hp.objs.size + 1) with
    | none => rfl
    | some o => exact absurd (Nat.lt_of_succ_lt (Heap.lt_size (show hp.get? (hp.objs.size + 1) = some o from X _ _ e))) (Nat.lt_irrefl _)
  refine call_own F.excBase_ValueError (fun X => refsVE_contains X bm hbm) (X _ _ hC) (looks_findIn X T.iC) (fun self => bind_fn X self T.tC) (by show 1 ≤ sizeLine; decide) ?_
  obtain ⟨mb, hb1, hb2⟩ := G.b
  refine x_init (s := ⟨(hp.push (kdv_tup [v])).push (excO C hp.objs.size), g, dr, tk, os⟩) T (X.keeps k) (hlim.keeps k) ⟨G.g.keeps k, mb, hb1.keeps k, hb2⟩ hget hnx hroom fun h' tk' dx t1 ⟨k', hx, dn, dne, hns⟩ => ?_
  have old : ∀ b o, hp.get? b = some o → h'.get? b = some o := fun b o e => k' b o (Nat.ne_of_lt (Nat.lt_succ_of_lt (Heap.lt_size e))) (k b o e)
  have z : hp.objs.size ≤ dx := by
    have q := dn
    rw [Heap.size_push, Heap.size_push] at q
    omega
  exact ⟨rfl, hq h' tk' (hp.objs.size + 1) dx ⟨old, Nat.le_succ _, ⟨_, _, hx, rfl, rfl, rfl, rfl⟩, z, dne, hns⟩⟩
end
end K61
namespace K61
open PySem PySem.Spec PyProof.Rows L2 HandSPX
theorem relO_part {v : V} {v' : Value} (r : RelV v v') (f : Str) : RelO (List.lookup f [(("part" : Str), v)]) (if f = "part" then some v' else none) := by
  by_cases hw : f = "part"
  · subst hw
    simpa [List.lookup, RelO] using r
  · have qw : (f == ("part" : Str)) = false := by simpa using hw
    rw [if_neg hw]
    simp [List.lookup, qw, RelO]
section
variable {X : Cx} {C fI : Addr} {nm ql : Str}
/-- nm(e): a new error of the class at C, its own dict d holds the part -/
def tMkX (C : Addr) (ta : TA) : L2.St → Hp → XK → Prop := fun σ H Q => ta σ H fun vs H1 => ∃ v, vs = [v] ∧ ∀ d, H1 d = none → Q (.ref C) (some d) (upd H1 d (.xd [(("part" : Str), v)]))
theorem pmk_x {a : Expr} {ta : TA} {p pos : Pos} {k : Nat} (T : ExTxt X.prog X.K X.mg nm ql C fI) (hr : Room k X.A) (ha : PA X [a] ta) (hg : Gl X nm := by rfl) (hdb : (nm == ("__debug__" : Str)) = false := by decide)
    (he : starEach (a :: []) X.env = (false, eval a X.env) :: starEach [] X.env := by rfl) (hpl : (backTo pos (starEach [] X.env)).any (·.1) = false := by rfl) :
    PMk X (.Call (.Name nm p) [a] [] pos) (tMkX C ta) := by
  intro pins s σ H Q I h
  refine wpAny_Call_Name_kw (ld_glob I hg T.gC ?_ hdb)
  refine PySem.W.callWith_K (h₀ := X.base) I.ok.mod.kin T.kC (thn (ha.run pos pins s σ H _ I h) fun us s1 hh => ?_) he hpl
  obtain ⟨vs, H1, I1, r1, v, ev, q1⟩ := hh
  subst ev
  refine ⟨I1.kIn, ?_⟩
  obtain ⟨v', rfl, rv⟩ := vals1 r1
  show wpAny _ _ (call (.ref C) [v']) _ _ _
  have hlim := I1.nolimit
  obtain ⟨mb, hb1, hb2⟩ := I1.mod.blt
  have G : Glob X.mg s1.heap := ⟨I1.mod.glob.keeps I1.bk, mb, hb1.keeps I1.bk, hb2⟩
  obtain ⟨hp, g, dr, tk, os⟩ := s1
  refine wpAny_call (x_made T I1.kIn hlim G (by have := hr.dp; omega) fun h' tk' e d M => ?_)
  show MkP X pins σ Q (.ref e) ⟨h', g, dr, tk', os⟩
  obtain ⟨oe, fv, hoe, hc, hd, hdat, h1⟩ := M.obj
  obtain ⟨G', g1, g2⟩ := restrict h' fun b => decide (b ≠ e)
  have gk : ∀ b, b ≠ e → G'.get? b = h'.get? b := fun b hb => g1 b (decide_eq_true hb)
  have ge : G'.get? e = none := g2 e (by simp)
  have old : ∀ b o, hp.get? b = some o → G'.get? b = some o := fun b o q => (gk b (Nat.ne_of_lt (Nat.lt_of_lt_of_le (Heap.lt_size q) M.new))).trans (M.keep b o q)
  have ob : ObjOk X.prog X.w (upd H1 d (.xd [(("part" : Str), v)])) G' d (.xd [(("part" : Str), v)]) := ⟨_, M.ns.at (fun o q => (gk d M.dne).trans q), fun f => relO_part rv f⟩
  have J : Inv X pins σ (upd H1 d (.xd [(("part" : Str), v)])) ⟨G', g, dr, tk', os⟩ := I1.laid (t' := tk') old M.dbig ob
  refine ⟨e, oe, fv, ⟨G', g, dr, tk', os⟩, _, .ref C, some d, rfl, J, fun b o q => ?_, ge, hoe, ⟨hc, hd⟩, hdat, h1, ?_, rfl, I1.bare, raises_own T.exC T.tyC, q1 d (I1.hok.fresh M.dbig)⟩
  · have q : G'.get? b = some o := q
    by_cases hb : b = e
    · rw [hb, ge] at q
      cases q
    · exact (gk b hb).symm.trans q
  · rw [upd_ne (Ne.symm M.dne)]
    exact I1.hok.fresh M.new
/-- raise nm(e) -/
theorem ps_raiseP {a : Expr} {ta : TA} {W : WX} {p pos pos2 : Pos} {k : Nat} (hc : X.calm = true) (T : ExTxt X.prog X.K X.mg nm ql C fI) (hr : Room k X.A) (tk : Takes X W) (ha : PA X [a] ta) (hg : Gl X nm := by rfl) (hdb : (nm == ("__debug__" : Str)) = false := by decide)
    (he : starEach (a :: []) X.env = (false, eval a X.env) :: starEach [] X.env := by rfl) (hpl : (backTo pos (starEach [] X.env)).any (·.1) = false := by rfl) :
    PS X (.Raise (some (.Call (.Name nm p) [a] [] pos)) none pos2) (fun _ σ H => tMkX C ta σ H fun cls d H' => W cls d σ H') := ps_raise hc tk (pmk_x T hr ha hg hdb he hpl)
end
end K61

set_option Elab.async false
set_option linter.all false
set_option maxRecDepth 100000
set_option maxHeartbeats 4000000
/-! Rules of our own: a range by a step as a value, not in it. -/
namespace K61
open PySem PySem.Spec PyProof.Rows L2
/-- the object at p is range(a, b, c) -/
def Rg3 (p : Addr) (a b c : Int) : HO := .ext fun h => ∃ t u v, h.get? p = some { cls := .type "range", dict := none, data := .fields #[.int a t, .int b u, .int c v], slots := #[] }
theorem cr_range3 {X : Cx} : CallR X (.type "range") (fun vs H Q => ∃ i j c, vs = [V.int i, V.int j, V.int c] ∧ c ≠ 0 ∧ (j - i).natAbs < 1000000 ∧ c.natAbs < 1000000 ∧ ∀ p, H p = none → Q (.ref p) (upd H p (Rg3 p i j c))) := by
  intro pins s σ H vs us Q I r h
  obtain ⟨i, j, c, rfl, c0, c1, c2, q⟩ := h
  cases r with
  | cons r1 rr =>
    cases rr with
    | cons r2 rr =>
      cases rr with
      | cons r3 rr =>
        cases rr
        obtain ⟨t, rfl⟩ := r1
        obtain ⟨u, rfl⟩ := r2
        obtain ⟨v, rfl⟩ := r3
        have hg := Heap.get?_push_size s.heap (o := { cls := .type "range", data := .fields #[.int i t, .int j u, .int c v] }) rfl
        refine call_range_3 c0 ⟨.ref s.heap.objs.size, upd H s.heap.objs.size (Rg3 s.heap.objs.size i j c), I.laid (t' := s.toks) (fun b o e => Heap.get?_push_of_some _ e) (Nat.le_refl _) ?_, rfl, q _ (I.hok.fresh (Nat.le_refl _))⟩ (.inl (PyProof.noPylong_small (by omega)))
        exact ⟨⟨t, u, v, hg⟩, ⟨_, hg⟩, fun h1 h2 ⟨t, u, v, e⟩ st => ⟨t, u, v, st _ e⟩⟩
theorem rg3_contains (r : Addr) (a b c i : Int) (t u v k : Tok) :
    Meets (Builtin.«range.__contains__» ⟨[.ref r, .int i k], []⟩) (fun _ R s => s.heap.get? r = some { cls := .type "range", dict := none, data := .fields #[.int a t, .int b u, .int c v], slots := #[] } ∧ R (.ok (.ret (.bool (Builtin.Range.rangePlace? a b c i).isSome))) s) :=
  .of_wp fun prog w A R s h => by
    obtain ⟨hp, g, d, tk, os⟩ := s
    obtain ⟨hl, h⟩ := h
    wp_walk
    exact ⟨_, rfl, h⟩
theorem op_notRg3 {X : Cx} : OpR X (compareOp .NotIn) (fun x y H Q => ∃ i a lo hi c, x = V.int i ∧ y = V.ref a ∧ H a = some (Rg3 a lo hi c) ∧ Q (.bl (!(Builtin.Range.rangePlace? lo hi c i).isSome)) H) := by
  intro pins s σ H x y v u Q I rx ry h
  obtain ⟨i, a, lo, hi, c, rfl, rfl, ha, q⟩ := h
  obtain ⟨k, rfl⟩ := rx
  obtain rfl : u = Value.ref a := ry
  obtain ⟨⟨t1, t2, t3, ho⟩, _, _⟩ := I.hok a _ ha
  show wpAny _ _ (do return Value.bool (!(← contains (Value.ref a) (Value.int i k)))) _ _ s
  exact wpAny_bind (wpAny_contains_slot (T := "range") ⟨_, ho, rfl⟩ F.slot_range_contains (call_meets F.slot_range_contains ⟨_, ho, rfl⟩ F.entry_range_contains (F.args_range_contains_2 _ _) (rg3_contains a lo hi c i t1 t2 t3 k)
    ⟨ho, wpAny_truthy_bool (wpAny_pure ⟨.bl _, H, I, rfl, q⟩)⟩))
/-- in a range by 2 from an even start -/
theorem place2 (a b i : Int) : (Builtin.Range.rangePlace? a b 2 i).isSome = decide (a ≤ i ∧ i < b ∧ (i - a) % 2 = 0) := by
  unfold Builtin.Range.rangePlace?
  by_cases h1 : a ≤ i <;> by_cases h2 : i < b <;> by_cases h3 : (i - a) % 2 = 0 <;> simp [h1, h2, h3]
end K61

set_option Elab.async false
set_option linter.all false
set_option maxRecDepth 100000
set_option maxHeartbeats 4000000
/-! The walks: what refuses (need_clock .. need_ring). -/
namespace K61
open PySem PySem.Spec PyProof.Rows L2
/-- the module's whole numbers -/
structure Gs (mg : Str → Option Value) : Prop where
  g1 : ∃ t, mg "MOST_SIZE" = some (.int 400 t)
  g2 : ∃ t, mg "MOST_GIVEN" = some (.int 400 t)
  g3 : ∃ t, mg "MOST_NAMES" = some (.int 7 t)
  g4 : ∃ t, mg "MOST_GAPS_rims" = some (.int 16 t)
  g5 : ∃ t, mg "LEAST_GAPS" = some (.int 4 t)
  g6 : ∃ t, mg "MOST_GAPS_roped" = some (.int 16 t)
theorem SeqK.same {K : PySem.W.Frag} {H H' : Hp} {x : V} {r : Option (List V)} (s : Same H H') (h : SeqK K H x r) : SeqK K H' x r := by
  cases h with
  | lst h => exact .lst (s.seq h)
  | tup h => exact .tup (same_tup s h)
  | no t k1 k2 => exact .no (tyx_same s t) k1 k2
theorem seqk_any {K : PySem.W.Frag} {H : Hp} {x : V} {r : Option (List V)} (h : SeqK K H x r) : ∃ t, TyX K H x t ∧ PySem.W.kitAny K t [.type "list", .type "tuple"] = some r.isSome := by
  cases h with
  | lst h => exact ⟨_, tyx_lst h, kitAny_cons (kit_ty (by decide +kernel : kitB "list" "list" = some true)) (fun z => nomatch z) (fun _ => rfl)⟩
  | tup h => exact ⟨_, tyx_tup h, kitAny_cons (kit_ty (by decide +kernel : kitB "tuple" "list" = some false)) (fun _ => kitAny_cons (kit_ty (by decide +kernel : kitB "tuple" "tuple" = some true)) (fun z => nomatch z) (fun _ => rfl)) (fun _ => rfl)⟩
  | no t k1 k2 => exact ⟨_, t, kitAny_cons k1 (fun _ => kitAny_cons k2 (fun _ => kitAny_nil) (fun z => nomatch z)) (fun z => nomatch z)⟩
theorem seqk_ref {K : PySem.W.Frag} {H : Hp} {x : V} {xs : List V} (h : SeqK K H x (some xs)) : ∃ a, x = .ref a ∧ (SqL K H a xs ∨ SqT K H a xs) := by
  cases h with
  | lst h => exact ⟨_, rfl, .inl h⟩
  | tup h => exact ⟨_, rfl, .inr h⟩
/-- all items may be asked -/
def SeqTy (K : PySem.W.Frag) (H : Hp) (r : Option (List V)) : Prop := ∀ xs, r = some xs → xs.length ≤ sizeLine ∧ ∀ H' y, Same H H' → y ∈ xs → TyI K H' y
theorem SeqTy.same {K : PySem.W.Frag} {H H' : Hp} {r : Option (List V)} (s : Same H H') (h : SeqTy K H r) : SeqTy K H' r := fun xs e => ⟨(h xs e).1, fun H2 y s2 => (h xs e).2 H2 y (s.trans s2)⟩
theorem within_ints {c : Int} : ∀ {xs : List V}, xs.all (within 0 (c - 1)) = true → ∃ ns : List Int, xs = ns.map V.int ∧ ∀ x ∈ ns, 0 ≤ x ∧ x < c
  | [], _ => ⟨[], rfl, fun x hx => by cases hx⟩
  | v :: xs, h => by
    rw [List.all_cons, Bool.and_eq_true] at h
    obtain ⟨ns, e, hn⟩ := within_ints h.2
    cases v with
    | int i =>
      have z : (decide (0 ≤ i) && decide (i ≤ c - 1)) = true := h.1
      rw [Bool.and_eq_true] at z
      have z1 := of_decide_eq_true z.1
      have z2 := of_decide_eq_true z.2
      refine ⟨i :: ns, by rw [e]; rfl, fun x hx => ?_⟩
      rcases List.mem_cons.mp hx with rfl | hx
      · omega
      · exact hn x hx
    | _ => exact absurd h.1 (by simp [within])
theorem ints_within {c : Int} {ns : List Int} (h : ∀ x ∈ ns, 0 ≤ x ∧ x < c) : (ns.map V.int).all (within 0 (c - 1)) = true := by
  rw [List.all_map, List.all_eq_true]
  intro x hx
  have z := h x hx
  show (decide (0 ≤ x) && decide (x ≤ c - 1)) = true
  rw [decide_eq_true z.1, decide_eq_true (by omega)]
  rfl
abbrev s_need_number : Stmt := top 14
abbrev N_need_number : List Str := ["value", "part", "least", "most"]
theorem sc_need_number : FnScope N_need_number ["value", "part", "least", "most"] (defScope s_need_number) := ⟨rfl, rfl, rfl, by decide +kernel, rfl, by decide +kernel, by decide +kernel⟩
abbrev s_need_clock : Stmt := top 15
abbrev N_need_clock : List Str := ["value"]
theorem sc_need_clock : FnScope N_need_clock ["value"] (defScope s_need_clock) := ⟨rfl, rfl, rfl, by decide +kernel, rfl, by decide +kernel, by decide +kernel⟩
abbrev s_need_row : Stmt := top 16
abbrev N_need_row : List Str := ["value", "clock", "size", "part"]
theorem sc_need_row : FnScope N_need_row ["value", "clock", "size", "part"] (defScope s_need_row) := ⟨rfl, rfl, rfl, by decide +kernel, rfl, by decide +kernel, by decide +kernel⟩
abbrev s_need_sized : Stmt := top 17
abbrev N_need_sized : List Str := ["value", "clock", "part", "least", "most", "step"]
theorem sc_need_sized : FnScope N_need_sized ["value", "clock", "part", "least", "most", "step"] (defScope s_need_sized) := ⟨rfl, rfl, rfl, by decide +kernel, rfl, by decide +kernel, by decide +kernel⟩
abbrev s_need_space : Stmt := top 42
abbrev N_need_space : List Str := ["value", "part"]
theorem sc_need_space : FnScope N_need_space ["value", "part"] (defScope s_need_space) := ⟨rfl, rfl, rfl, by decide +kernel, rfl, by decide +kernel, by decide +kernel⟩
abbrev s_need_ring : Stmt := top 58
abbrev N_need_ring : List Str := ["space"]
theorem sc_need_ring : FnScope N_need_ring ["space"] (defScope s_need_ring) := ⟨rfl, rfl, rfl, by decide +kernel, rfl, by decide +kernel, by decide +kernel⟩
def xPart (z : Str) (d : Addr) (H : Hp) : Hp := upd H d (.xd [(("part" : Str), .str z)])
def sp_need_number (K : PySem.W.Frag) : Sp := fun vs H Q _ => ∃ i z lo hi, vs = [.int i, z, .int lo, .int hi] ∧ lo ≤ i ∧ i ≤ hi ∧ Q .non H
def sp_need_clock (K : PySem.W.Frag) (Ck : Addr) : Sp := fun vs H Q E => ∃ x, vs = [x] ∧ TyI K H x ∧ (clockB x = true → Q .non H) ∧ (clockB x = false → ∀ d, H d = none → E (.ref Ck) (some d) (xPart "clock" d H))
/-- the row that value tells, as a tuple; or the refusal -/
def RowOut (K : PySem.W.Frag) (Cr : Addr) (b : Bool) (c : Int) (z : Str) (r : Option (List V)) (H : Hp) (Q : VK) (E : XK) : Prop :=
  (b = true → ∀ H' v ns, Same H H' → r = some (ns.map V.int) → (∀ x ∈ ns, 0 ≤ x ∧ x < c) → Dp K H' v (dT ns) → Q v H') ∧ (b = false → ∀ H' d, Same H H' → H' d = none → E (.ref Cr) (some d) (xPart z d H'))
def sp_need_row (K : PySem.W.Frag) (Cr : Addr) : Sp := fun vs H Q E => ∃ x c n z r, vs = [x, .int c, .int n, .str z] ∧ SeqK K H x r ∧ SeqTy K H r ∧ RowOut K Cr (rowB c n r) c z r H Q E
def sizedB (c lo hi : Int) : Option (List V) → Bool
  | none => false
  | some xs => decide (lo ≤ xs.length ∧ (xs.length : Int) < hi + 1 ∧ ((xs.length : Int) - lo) % 2 = 0) && xs.all (within 0 (c - 1))
def sp_need_sized (K : PySem.W.Frag) (Cr : Addr) : Sp := fun vs H Q E => ∃ x c z lo hi r, vs = [x, .int c, .str z, .int lo, .int hi, .int 2] ∧ (0 ≤ lo ∧ lo < 100 ∧ 0 ≤ hi ∧ hi < 100) ∧ SeqK K H x r ∧ SeqTy K H r ∧ RowOut K Cr (sizedB c lo hi r) c z r H Q E
def sp_need_space (K : PySem.W.Frag) (C Cs : Addr) : Sp := fun vs H Q E => ∃ x z t b, vs = [x, .str z] ∧ TyX K H x t ∧ PySem.W.kitOne K t (.ref C) = some b ∧ (b = true → Q .non H) ∧ (b = false → ∀ d, H d = none → E (.ref Cs) (some d) (xPart z d H))
/-- what isinstance(.., Space) finds of a space -/
structure SpI (K : PySem.W.Frag) (C : Addr) : Prop where
  cl : Cls K C
  ha : PySem.W.findIn K (.ref C) "__class__" = some (some (.builtin "object.__class__"))
  hn : PySem.W.specialIn K (.builtin "object.__class__") "__get__" = some (some (.builtin "getset_descriptor.__get__"))
  ht : PySem.W.takesIn K (.builtin "object.__class__") = some true
  hm : PySem.W.mroIn K C (.type "object") = some true
theorem kit_self (K : PySem.W.Frag) (C : Addr) : PySem.W.kitOne K (.ref C) (.ref C) = some true := by
  unfold PySem.W.kitOne
  rw [if_pos (beq_self_eq_true _)]
theorem SpI.ty {K : PySem.W.Frag} {H : Hp} {C : Addr} {v : V} {c : Int} {n : Nat} {rows : List (List Int)} (I : SpI K C) (h : SpaceAt K H C v c n rows) : TyX K H v (.ref C) := by
  obtain ⟨a, dx, r, rfl, h1, _⟩ := h
  exact .base (.ins h1 I.cl I.ha I.hn I.ht I.hm)
/-- need_ring: a space whose size is 4, 6 .. 16; what is no space; one of another size -/
def sp_need_ring (K : PySem.W.Frag) (C Cs Cm : Addr) : Sp := fun vs H Q E => ∃ x, vs = [x] ∧
  ((∃ c n rows, SpaceAt K H C x c n rows ∧ (decide (4 ≤ n ∧ n < 17 ∧ n % 2 = 0) = true → ∀ H', Same H H' → Q .non H') ∧ (decide (4 ≤ n ∧ n < 17 ∧ n % 2 = 0) = false → ∀ H' d, Same H H' → H' d = none → E (.ref Cm) (some d) (xPart "space" d H'))) ∨
  (∃ t, TyX K H x t ∧ PySem.W.kitOne K t (.ref C) = some false ∧ ∀ d, H d = none → E (.ref Cs) (some d) (xPart "space" d H)))
section
variable {P : Program} {w : World} {K : PySem.W.Frag} {mg : Str → Option Value} {base : Heap} {f : Addr} {fd : FuncData} {C Ck Cr Cs Cm fk fr fs fm : Addr}
theorem ok_need_number (c_is_within : Cal P w K mg base CX0 2 "is_within" ["value", "least", "most"] [] (sp_is_within K)) (F : FnP K "need_number" s_need_number f fd) : FnOk P w K mg base CX0 3 f fd ["value", "part", "least", "most"] (sp_need_number K) := by
  have nd := sc_need_number.nd
  refine okN F sc_need_number (fun vs H Q E h => by obtain ⟨i, z, lo, hi, rfl, _⟩ := h; rfl) (fun cdv A outer s H vs Q E hr h => ?_)
  have hr_is_within := hr
  refine ⟨_, (pss_one (ps_if (pt_not (pt_val (e_call c_is_within hr_is_within pass0 (pa_cons (pv 0) (pa_cons (pv 2) (pa_cons (pv 3) pa_nil)))))) (pss_one ps_never) pss_nil)), ?_⟩
  obtain ⟨i, z, lo, hi, rfl, h1, h2, q⟩ := h
  refine ⟨_, rfl, _, rfl, _, rfl, .int i, lo, hi, rfl, tyI_int K H i, true, ?_, iteF q⟩
  show V.bl (decide (lo ≤ i) && decide (i ≤ hi)) = V.bl true
  rw [decide_eq_true h1, decide_eq_true h2]
  rfl
theorem ok_need_clock (x_BadClock : ExTxt P K mg "BadClock" "BadClock.__init__" Ck fk) (c_is_clock : Cal P w K mg base CX0 2 "is_clock" ["value"] [] (sp_is_clock K)) (F : FnP K "need_clock" s_need_clock f fd) : FnOk P w K mg base (L2.CX P w) 3 f fd ["value"] (sp_need_clock K Ck) := by
  have nd := sc_need_clock.nd
  refine F.ok sc_need_clock (fun vs H Q E h => by obtain ⟨x, rfl, _⟩ := h; rfl) (fun cdv A outer s H vs Q E hr h => ?_)
  have hr_is_clock := hr
  have hrx := hr
  refine ⟨_, (pss_one (ps_if (pt_not (pt_val (e_call c_is_clock hr_is_clock pass0 (pa_cons (pv 0) pa_nil)))) (pss_one (ps_raiseP rfl x_BadClock hrx (takes_of rfl rfl rfl rfl) (pa_cons pe_str pa_nil))) pss_nil)), ?_⟩
  obtain ⟨x, rfl, ty, q1, q2⟩ := h
  refine ⟨_, rfl, x, rfl, ty, _, rfl, ?_⟩
  cases e : clockB x with
  | true => exact iteF (q1 e)
  | false => exact iteT ⟨_, rfl, fun d hd => q2 e d hd⟩
theorem ok_need_row (B : Bi mg) (x_BadRow : ExTxt P K mg "BadRow" "BadRow.__init__" Cr fr) (c_is_row : Cal P w K mg base CX0 3 "is_row" ["value", "clock", "size"] [] (sp_is_row K)) (F : FnP K "need_row" s_need_row f fd) : FnOk P w K mg base (L2.CX P w) 4 f fd ["value", "clock", "size", "part"] (sp_need_row K Cr) := by
  have nd := sc_need_row.nd
  refine F.ok sc_need_row (fun vs H Q E h => by obtain ⟨x, c, n, z, r, rfl, _⟩ := h; rfl) (fun cdv A outer s H vs Q E hr h => ?_)
  have hr_is_row := hr
  have hrx := hr
  refine ⟨_, (pss_cons (ps_if (pt_not (pt_val (e_call c_is_row hr_is_row pass0 (pa_cons (pv 0) (pa_cons (pv 1) (pa_cons (pv 2) pa_nil)))))) (pss_one (ps_raiseP rfl x_BadRow hrx (takes_of rfl rfl rfl rfl) (pa_cons (pv 3) pa_nil))) pss_nil)
      (pss_one (ps_ret (pe_callTy (kTup K) rfl B.tuple bt_tuple (pa_cons (pv 0) pa_nil))))), ?_⟩
  obtain ⟨x, c, n, z, r, rfl, sk, st, q1, q2⟩ := h
  refine ⟨_, rfl, _, rfl, _, rfl, x, c, n, r, rfl, sk, st, fun H1 s1 => ⟨_, rfl, ?_⟩⟩
  cases e : rowB c n r with
  | false => exact iteT ⟨_, rfl, _, rfl, fun d hd => q2 e H1 d s1 hd⟩
  | true =>
    refine iteF ⟨_, rfl, ?_⟩
    cases r with
    | none => exact absurd e (by simp [rowB])
    | some xs =>
      have e' : (decide ((xs.length : Int) = n) && xs.all (within 0 (c - 1))) = true := e
      rw [Bool.and_eq_true] at e'
      obtain ⟨ns, rfl, hb⟩ := within_ints e'.2
      cases sk with
      | @lst a xs hx => exact ⟨a, _, rfl, .inl ⟨s1.seq hx, fun l hl => q1 e _ _ ns (s1.trans (same_upd hl)) rfl hb (dp_T (.of upd_same))⟩⟩
      | @tup a xs hx => exact ⟨a, _, rfl, .inr ⟨same_tup s1 hx, q1 e _ _ ns s1 rfl hb (dp_T (same_tup s1 hx))⟩⟩
theorem ok_need_sized (B : Bi mg) (x_BadRow : ExTxt P K mg "BadRow" "BadRow.__init__" Cr fr) (c_need_row : Cal P w K mg base (L2.CX P w) 4 "need_row" ["value", "clock", "size", "part"] [] (sp_need_row K Cr)) (F : FnQ K "need_sized" s_need_sized [.int 1] f fd) :
    FnOk P w K mg base (L2.CX P w) 5 f fd ["value", "clock", "part", "least", "most", "step"] (sp_need_sized K Cr) := by
  have nd := sc_need_sized.nd
  refine F.ok sc_need_sized (fun vs H Q E h => by obtain ⟨x, c, z, lo, hi, r, rfl, _⟩ := h; rfl) (fun cdv A outer s H vs Q E hr h => ?_)
  have hr_need_row := hr
  have hrx := hr
  refine ⟨_, (pss_cons (ps_if (PW.pt (pw_or (pt_not (pt_val (pe_callB (kIsiT K) rfl B.isinstance bt_isinstance (pa_cons (pv 0) (pa_cons (pe_tup (pa_cons (pe_bltn (v := .ty "list") rfl B.list bt_list rfl) (pa_cons (pe_bltn (v := .ty "tuple") rfl B.tuple bt_tuple rfl) pa_nil))) pa_nil))))) (pw_or1 (pt_cmpR op_notRg3 (pe_callB (kLen K) rfl B.len bt_len (pa_cons (pv 0) pa_nil)) (pe_callTy cr_range3 rfl B.range bt_range (pa_cons (pv 3) (pa_cons (pe_op op_add (pv 4) pe_int) (pa_cons (pv 5) pa_nil)))) rfl)))) (pss_one (ps_raiseP rfl x_BadRow hrx (takes_of rfl rfl rfl rfl) (pa_cons (pv 2) pa_nil))) pss_nil)
      (pss_one (ps_ret (e_call c_need_row hr_need_row (passes_call (takes_of rfl rfl rfl rfl) (fun _ _ _ _ h => h)) (pa_cons (pv 0) (pa_cons (pv 1) (pa_cons (pe_callB (kLen K) rfl B.len bt_len (pa_cons (pv 0) pa_nil)) (pa_cons (pv 2) pa_nil)))))))), ?_⟩
  obtain ⟨x, c, z, lo, hi, r, rfl, ⟨b1, b2, b3, b4⟩, sk, st, q1, q2⟩ := h
  refine ⟨_, rfl, (by show 2 ≤ sizeLine; decide), fun p hp => ?_⟩
  have s1 : Same H (upd H p (.tup [.ty "list", .ty "tuple"])) := same_upd hp
  obtain ⟨t, ty, kt⟩ := seqk_any (sk.same s1)
  refine ⟨x, p, _, t, _, _, rfl, upd_same, .cons (.ty _) (.cons (.ty _) .nil), ty, kt, _, rfl, ?_⟩
  cases r with
  | none => exact iteT (iteT ⟨_, rfl, _, rfl, fun d hd => q2 rfl _ d s1 hd⟩)
  | some xs =>
    obtain ⟨a, rfl, hx⟩ := seqk_ref (sk.same s1)
    obtain ⟨hl, _⟩ := st xs rfl
    refine iteF ⟨_, rfl, a, xs, rfl, hx, _, rfl, _, rfl, hi, 1, rfl, rfl, _, rfl, lo, hi + 1, 2, rfl, by decide, by omega, by decide, fun p2 hp2 => ⟨_, p2, _, _, _, rfl, rfl, upd_same, _, rfl, ?_⟩⟩
    have s2 : Same (upd H p (.tup [.ty "list", .ty "tuple"])) (upd (upd H p (.tup [.ty "list", .ty "tuple"])) p2 (Rg3 p2 lo (hi + 1) 2)) := same_upd hp2
    have s12 := s1.trans s2
    rw [place2 lo (hi + 1) xs.length]
    generalize upd (upd H p (.tup [.ty "list", .ty "tuple"])) p2 (Rg3 p2 lo (hi + 1) 2) = H2 at *
    by_cases hin : lo ≤ xs.length ∧ (xs.length : Int) < hi + 1 ∧ ((xs.length : Int) - lo) % 2 = 0
    · rw [decide_eq_true hin]
      refine iteF ?_
      have e : sizedB c lo hi (some xs) = rowB c xs.length (some xs) := by
        show (decide (lo ≤ xs.length ∧ (xs.length : Int) < hi + 1 ∧ ((xs.length : Int) - lo) % 2 = 0) && xs.all (within 0 (c - 1))) = (decide ((xs.length : Int) = xs.length) && xs.all (within 0 (c - 1)))
        rw [decide_eq_true hin, decide_eq_true rfl]
      have hx2 : SqL K H2 a xs ∨ SqT K H2 a xs := hx.elim (fun z => .inl (s2.seq z)) (fun z => .inr (same_tup s2 z))
      refine ⟨_, rfl, _, rfl, _, rfl, a, xs, rfl, hx2, _, rfl, _, c, _, z, some xs, rfl, sk.same s12, st.same s12, ?_, ?_⟩
      · intro eb H' v ns s3 er hb hv
        exact q1 (e.trans eb) H' v ns (s12.trans s3) er hb hv
      · intro eb H' d s3 hd
        exact q2 (e.trans eb) H' d (s12.trans s3) hd
    · rw [decide_eq_false hin]
      refine iteT ⟨_, rfl, _, rfl, fun d hd => q2 ?_ _ d s12 hd⟩
      show (decide (lo ≤ xs.length ∧ (xs.length : Int) < hi + 1 ∧ ((xs.length : Int) - lo) % 2 = 0) && xs.all (within 0 (c - 1))) = false
      rw [decide_eq_false hin]
      rfl
theorem ok_need_space (B : Bi mg) (S : SpC K mg C) (x_BadSpace : ExTxt P K mg "BadSpace" "BadSpace.__init__" Cs fs) (F : FnQ K "need_space" s_need_space [.str "space"] f fd) : FnOk P w K mg base (L2.CX P w) 1 f fd ["value", "part"] (sp_need_space K C Cs) := by
  have nd := sc_need_space.nd
  refine F.ok sc_need_space (fun vs H Q E h => by obtain ⟨x, z, t, b, rfl, _⟩ := h; rfl) (fun cdv A outer s H vs Q E hr h => ?_)
  have hrx := hr
  refine ⟨_, (pss_one (ps_if (pt_not (pt_val (pe_callB (kIsi K) rfl B.isinstance bt_isinstance (pa_cons (pv 0) (pa_cons (pe_glob (v := .ref C) rfl S.gC rfl) pa_nil))))) (pss_one (ps_raiseP rfl x_BadSpace hrx (takes_of rfl rfl rfl rfl) (pa_cons (pv 1) pa_nil))) pss_nil)), ?_⟩
  obtain ⟨x, z, t, b, rfl, ty, kt, q1, q2⟩ := h
  refine ⟨_, rfl, _, _, t, _, b, rfl, .own C, ty, kt, _, rfl, ?_⟩
  cases b with
  | true => exact iteF (q1 rfl)
  | false => exact iteT ⟨_, rfl, _, rfl, fun d hd => q2 rfl d hd⟩
theorem ok_need_ring (B : Bi mg) (S : SpC K mg C) (I : SpI K C) (Gl : Gs mg) (x_Misfit : ExTxt P K mg "Misfit" "Misfit.__init__" Cm fm) (c_need_space : Cal P w K mg base (L2.CX P w) 1 "need_space" ["value", "part"] [.str "space"] (sp_need_space K C Cs)) (F : FnP K "need_ring" s_need_ring f fd) :
    FnOk P w K mg base (L2.CX P w) 2 f fd ["space"] (sp_need_ring K C Cs Cm) := by
  have nd := sc_need_ring.nd
  obtain ⟨t5, g_LEAST_GAPS⟩ := Gl.g5
  obtain ⟨t6, g_MOST_GAPS_roped⟩ := Gl.g6
  have r_LEAST_GAPS : RelV (.int 4) (Value.int 4 t5) := ⟨_, rfl⟩
  have r_MOST_GAPS_roped : RelV (.int 16) (Value.int 16 t6) := ⟨_, rfl⟩
  refine F.ok sc_need_ring (fun vs H Q E h => by obtain ⟨x, rfl, _⟩ := h; rfl) (fun cdv A outer s H vs Q E hr h => ?_)
  have hr_need_space := hr
  have hrx := hr
  refine ⟨_, (pss_cons (ps_expr (e_call c_need_space hr_need_space (passes_call (takes_of rfl rfl rfl rfl) (fun _ _ _ _ h => h)) (pa_cons (pv 0) pa_nil)))
      (pss_one (ps_if (pt_cmpR op_notRg3 (kFld K (pv 0) rfl) (pe_callTy cr_range3 rfl B.range bt_range (pa_cons (pe_glob rfl g_LEAST_GAPS r_LEAST_GAPS) (pa_cons (pe_op op_add (pe_glob rfl g_MOST_GAPS_roped r_MOST_GAPS_roped) pe_int) (pa_cons pe_int pa_nil)))) rfl) (pss_one (ps_raiseP rfl x_Misfit hrx (takes_of rfl rfl rfl rfl) (pa_cons pe_str pa_nil))) pss_nil))), ?_⟩
  obtain ⟨x, rfl, ⟨c, n, rows, hs, q1, q2⟩ | ⟨t, ty, kt, q⟩⟩ := h
  · refine ⟨_, rfl, x, "space", _, true, rfl, I.ty hs, kit_self K C, fun _ => ?_, fun z => nomatch z⟩
    obtain ⟨a, dx, r, rfl, ha, hr2⟩ := hs
    refine ⟨_, rfl, a, C, dx, _, _, rfl, ha, S.cl, S.n2, rfl, 16, 1, rfl, rfl, 4, 17, 2, rfl, by decide, by decide, by decide, fun p2 hp2 => ⟨_, p2, _, _, _, rfl, rfl, upd_same, _, rfl, ?_⟩⟩
    have s2 : Same H (upd H p2 (Rg3 p2 4 17 2)) := same_upd hp2
    have e : (Builtin.Range.rangePlace? 4 17 2 (n : Int)).isSome = decide (4 ≤ n ∧ n < 17 ∧ n % 2 = 0) := by
      rw [place2 4 17 n]
      refine decide_eq_decide.mpr ?_
      omega
    rw [e]
    cases eb : decide (4 ≤ n ∧ n < 17 ∧ n % 2 = 0) with
    | true => exact iteF (q1 eb _ s2)
    | false => exact iteT ⟨_, rfl, fun d hd => q2 eb _ d s2 hd⟩
  · exact ⟨_, rfl, x, "space", t, false, rfl, ty, kt, (fun z => nomatch z), fun _ d hd => q d hd⟩
end
end K61

set_option Elab.async false
set_option linter.all false
set_option maxRecDepth 100000
set_option maxHeartbeats 4000000
/-! The walks: need_rows, Space.__init__, a space made. -/
namespace K61
open PySem PySem.Spec PyProof.Rows L2
def clsBody : Stmt → List Stmt
  | .ClassDef (body := b) .. => b
  | _ => []
def mth (i : Nat) : Stmt := (clsBody (top 41)).getD i (.Pass ⟨0, 0, 0, 0⟩)
abbrev s_need_rows : Stmt := top 40
abbrev N_need_rows : List Str := ["value", "clock", "size", "row"]
theorem sc_need_rows : FnScope N_need_rows ["value", "clock", "size"] (defScope s_need_rows) := ⟨rfl, rfl, rfl, by decide +kernel, rfl, by decide +kernel, by decide +kernel⟩
abbrev s_Space___init : Stmt := mth 0
abbrev N_Space___init : List Str := ["self", "clock", "size", "rows"]
theorem sc_Space___init : FnScope N_Space___init ["self", "clock", "size", "rows"] (defScope s_Space___init) := ⟨rfl, rfl, rfl, by decide +kernel, rfl, by decide +kernel, by decide +kernel⟩
abbrev s_space_in : Stmt := top 35
abbrev N_space_in : List Str := ["clock", "size", "rows"]
theorem sc_space_in : FnScope N_space_in ["clock", "size", "rows"] (defScope s_space_in) := ⟨rfl, rfl, rfl, by decide +kernel, rfl, by decide +kernel, by decide +kernel⟩
abbrev s_upright_in : Stmt := top 38
abbrev N_upright_in : List Str := ["space"]
theorem sc_upright_in : FnScope N_upright_in ["space"] (defScope s_upright_in) := ⟨rfl, rfl, rfl, by decide +kernel, rfl, by decide +kernel, by decide +kernel⟩
abbrev s_upright : Stmt := top 43
abbrev N_upright : List Str := ["space"]
theorem sc_upright : FnScope N_upright ["space"] (defScope s_upright) := ⟨rfl, rfl, rfl, by decide +kernel, rfl, by decide +kernel, by decide +kernel⟩
/-- a row: a list or a tuple of whole numbers -/
def RowV (K : PySem.W.Frag) (H : Hp) (v : V) (r : List Int) : Prop := ∃ a, v = .ref a ∧ (SqL K H a (r.map V.int) ∨ SqT K H a (r.map V.int))
theorem RowV.same {K : PySem.W.Frag} {H H' : Hp} {v : V} {r : List Int} (s : Same H H') (h : RowV K H v r) : RowV K H' v r := by
  obtain ⟨a, e, h⟩ := h
  exact ⟨a, e, h.elim (fun z => .inl (s.seq z)) (fun z => .inr (same_tup s z))⟩
/-- rows: a list or a tuple of rows -/
def RowsV (K : PySem.W.Frag) (H : Hp) (v : V) (rs : List (List Int)) : Prop := ∃ a vs, v = .ref a ∧ (SqL K H a vs ∨ SqT K H a vs) ∧ Paired (RowV K H) vs rs
theorem RowsV.same {K : PySem.W.Frag} {H H' : Hp} {v : V} {rs : List (List Int)} (s : Same H H') (h : RowsV K H v rs) : RowsV K H' v rs := by
  obtain ⟨a, vs, e, h, p⟩ := h
  exact ⟨a, vs, e, h.elim (fun z => .inl (s.seq z)) (fun z => .inr (same_tup s z)), Paired.mapP p fun _ _ => RowV.same s⟩
theorem rowV_T {K : PySem.W.Frag} {H : Hp} {v : V} {r : List Int} (h : Dp K H v (dT r)) : RowV K H v r := by
  obtain ⟨a, e, q⟩ := dp_T' h
  exact ⟨a, e, .inr q⟩
theorem rowV_L {K : PySem.W.Frag} {H : Hp} {v : V} {r : List Int} (h : Dp K H v (dL r)) : RowV K H v r := by
  obtain ⟨a, e, q⟩ := dp_L' h
  exact ⟨a, e, .inl q⟩
theorem rows_T {K : PySem.W.Frag} {H : Hp} : ∀ {vs : List V} {rs : List (List Int)}, DpAll K H vs (rs.map dT) → Paired (RowV K H) vs rs
  | [], [], _ => .nil
  | [], _ :: _, h => by cases h
  | _ :: _, [], h => by cases h
  | v :: vs, r :: rs, .cons a b => .cons (rowV_T a) (rows_T b)
theorem rows_L {K : PySem.W.Frag} {H : Hp} : ∀ {vs : List V} {rs : List (List Int)}, DpAll K H vs (rs.map dL) → Paired (RowV K H) vs rs
  | [], [], _ => .nil
  | [], _ :: _, h => by cases h
  | _ :: _, [], h => by cases h
  | v :: vs, r :: rs, .cons a b => .cons (rowV_L a) (rows_L b)
theorem rowsV_TT {K : PySem.W.Frag} {H : Hp} {v : V} {rs : List (List Int)} (h : Dp K H v (dTT rs)) : RowsV K H v rs := by
  obtain ⟨a, vs, e, q, p⟩ := dp_tup' h
  exact ⟨a, vs, e, .inr q, rows_T p⟩
theorem rowsV_LT {K : PySem.W.Frag} {H : Hp} {v : V} {rs : List (List Int)} (h : Dp K H v (dLT rs)) : RowsV K H v rs := by
  obtain ⟨a, vs, e, q, p⟩ := dp_lst' h
  exact ⟨a, vs, e, .inl q, rows_T p⟩
theorem rowsV_LL {K : PySem.W.Frag} {H : Hp} {v : V} {rs : List (List Int)} (h : Dp K H v (dLL rs)) : RowsV K H v rs := by
  obtain ⟨a, vs, e, q, p⟩ := dp_lst' h
  exact ⟨a, vs, e, .inl q, rows_L p⟩
theorem paired_get {α β : Type} {R : α → β → Prop} : ∀ {xs : List α} {as : List β} {i : Nat} {x : α}, Paired R xs as → xs[i]? = some x → ∃ a, as[i]? = some a ∧ R x a
  | _, _, i, x, .nil, e => by simp at e
  | _, _, 0, x, .cons r _, e => by
    cases e
    exact ⟨_, rfl, r⟩
  | _, _, i + 1, x, .cons _ t, e => paired_get (i := i) t (by simpa using e)
theorem rowB_ok {c : Int} {n : Nat} {r : List Int} (h : RowOk c n r) : rowB c n (some (r.map V.int)) = true := by
  show (decide (((r.map V.int).length : Int) = n) && (r.map V.int).all (within 0 (c - 1))) = true
  rw [List.length_map, h.1, decide_eq_true rfl, ints_within h.2]
  rfl
/-! ### an instance is no list, no tuple -/
theorem seq_ins {K : PySem.W.Frag} {H : Hp} {x a C dx : Addr} {fs : List (Str × V)} {xs : List V} (h : SqL K H a xs) (hx : H x = some (.ins C dx fs)) : SqL K (del H x) a xs := by
  rcases h with (h | ⟨o, h⟩) | h
  · exact .inl (.inl (by rw [del_ne (ne_of h hx (by intro z; cases z))]; exact h))
  · exact .inl (.inr ⟨o, by rw [del_ne (ne_of h hx (by intro z; cases z))]; exact h⟩)
  · exact .inr h
theorem tup_ins {K : PySem.W.Frag} {H : Hp} {x a C dx : Addr} {fs : List (Str × V)} {xs : List V} (h : SqT K H a xs) (hx : H x = some (.ins C dx fs)) : SqT K (del H x) a xs := by
  rcases h with (h | ⟨o, h⟩) | h
  · exact .inl (.inl (by rw [del_ne (ne_of h hx (by intro z; cases z))]; exact h))
  · exact .inl (.inr ⟨o, by rw [del_ne (ne_of h hx (by intro z; cases z))]; exact h⟩)
  · exact .inr h
mutual
theorem dp_ins {K : PySem.W.Frag} {H : Hp} {x C dx : Addr} {fs : List (Str × V)} (hx : H x = some (.ins C dx fs)) : ∀ {v : V} {d : PyData}, Dp K H v d → Dp K (del H x) v d
  | _, _, .non => .non
  | _, _, .bl b => .bl b
  | _, _, .int i => .int i
  | _, _, .str x => .str x
  | _, _, .lst a b => .lst (seq_ins a hx) (dpa_ins hx b)
  | _, _, .tup a b => .tup (tup_ins a hx) (dpa_ins hx b)
theorem dpa_ins {K : PySem.W.Frag} {H : Hp} {x C dx : Addr} {fs : List (Str × V)} (hx : H x = some (.ins C dx fs)) : ∀ {vs : List V} {ds : List PyData}, DpAll K H vs ds → DpAll K (del H x) vs ds
  | _, _, .nil => .nil
  | _, _, .cons a b => .cons (dp_ins hx a) (dpa_ins hx b)
end
theorem rowsV_ins {K : PySem.W.Frag} {H : Hp} {x C dx : Addr} {fs : List (Str × V)} {v : V} {rs : List (List Int)} (hx : H x = some (.ins C dx fs)) (h : RowsV K H v rs) : RowsV K (del H x) v rs := by
  obtain ⟨a, vs, e, h, p⟩ := h
  refine ⟨a, vs, e, h.elim (fun z => .inl (seq_ins z hx)) (fun z => .inr (tup_ins z hx)), Paired.mapP p fun v r ⟨b, e, q⟩ => ⟨b, e, q.elim (fun z => .inl (seq_ins z hx)) (fun z => .inr (tup_ins z hx))⟩⟩
def sp_need_rows (K : PySem.W.Frag) : Sp := fun vs H Q _ => ∃ x c n rs, vs = [x, .int c, .int (n : Nat)] ∧ RowsV K H x rs ∧ (∀ r ∈ rs, RowOk c n r) ∧ rs.length ≤ 400 ∧ n ≤ 1000 ∧ ∀ H' v, Same H H' → Dp K H' v (dLT rs) → Q v H'
def spF (c : Int) (n : Nat) (r : Addr) (d : Nat) : List (Str × V) := [("clock", .int c), ("size", .int n), ("rows", .ref r), ("depth", .int d)]
def sp_init (K : PySem.W.Frag) (C : Addr) : Sp := fun vs H Q _ => ∃ x dx c n y rs, vs = [.ref x, .int c, .int (n : Nat), y] ∧ H x = some (.ins C dx []) ∧ RowsV K H y rs ∧ Clock c ∧ 1 ≤ n ∧ n ≤ 400 ∧ (∀ r ∈ rs, RowOk c n r) ∧ rs.length ≤ 400 ∧
  ∀ H' r, Same (del H x) H' → H' x = some (.ins C dx (spF c n r (leastIn c rs).length)) → Dp K H' (.ref r) (dTT (leastIn c rs)) → Q .non H'
section
variable {P : Program} {w : World} {K : PySem.W.Frag} {mg : Str → Option Value} {base : Heap} {f : Addr} {fd : FuncData} {C Ck : Addr}
theorem ok_need_rows (B : Bi mg) (Gl : Gs mg) (c_is_row : Cal P w K mg base CX0 3 "is_row" ["value", "clock", "size"] [] (sp_is_row K)) (F : FnP K "need_rows" s_need_rows f fd) : FnOk P w K mg base CX0 4 f fd ["value", "clock", "size"] (sp_need_rows K) := by
  have nd := sc_need_rows.nd
  obtain ⟨t2, g_MOST_GIVEN⟩ := Gl.g2
  have r_MOST_GIVEN : RelV (.int 400) (Value.int 400 t2) := ⟨_, rfl⟩
  refine okN F sc_need_rows (fun vs H Q E h => by obtain ⟨x, c, n, rs, rfl, _⟩ := h; rfl) (fun cdv A outer s H vs Q E hr h => ?_)
  have hr_is_row := hr
  refine ⟨_, (pss_cons (ps_if (PW.pt (pw_or (pt_not (pt_val (pe_callB (kIsiT K) rfl B.isinstance bt_isinstance (pa_cons (pv 0) (pa_cons (pe_tup (pa_cons (pe_bltn (v := .ty "list") rfl B.list bt_list rfl) (pa_cons (pe_bltn (v := .ty "tuple") rfl B.tuple bt_tuple rfl) pa_nil))) pa_nil))))) (pw_or1 (pt_cmpR op_gt (pe_callB (kLen K) rfl B.len bt_len (pa_cons (pv 0) pa_nil)) (pe_glob rfl g_MOST_GIVEN r_MOST_GIVEN) (nomark _))))) (pss_one ps_never) pss_nil)
      (pss_cons (ps_if (pt_not (pt_val (pe_callB (kAll K rfl) rfl B.all bt_all (pa_cons (pe_lc (own := [("row", 3)]) rfl nd (pi_seq (pv 0)) (blkOk_by (N := N_need_rows) (sc := (defScope s_need_rows)) (by decide +kernel)) (fun _ _ _ _ _ => by exact (pgn 3 nd)) (fun _ _ _ _ _ => by exact pts_nil) (fun _ _ _ _ _ => by exact (e_call c_is_row hr_is_row pass0 (pa_cons (pv 3) (pa_cons (pv 1) (pa_cons (pv 2) pa_nil)))))) pa_nil)))) (pss_one ps_never) pss_nil)
      (pss_one (ps_ret (pe_lc (own := [("row", 3)]) rfl nd (pi_seq (pv 0)) (blkOk_by (N := N_need_rows) (sc := (defScope s_need_rows)) (by decide +kernel)) (fun _ _ _ _ _ => by exact (pgn 3 nd)) (fun _ _ _ _ _ => by exact pts_nil) (fun _ _ _ _ _ => by exact (pe_callTy (kTup K) rfl B.tuple bt_tuple (pa_cons (pv 3) pa_nil)))))))), ?_⟩
  obtain ⟨x, c, n, rs, rfl, ⟨a, us, rfl, hx, pr⟩, hok, hlen, hn, q⟩ := h
  have el : us.length = rs.length := Paired.length pr
  have us1 : us.length ≤ sizeLine := by rw [el]; exact Nat.le_trans hlen (by decide)
  refine ⟨_, rfl, (by show 2 ≤ sizeLine; decide), fun p hp => ?_⟩
  have s1 : Same H (upd H p (.tup [.ty "list", .ty "tuple"])) := same_upd hp
  have sk : SeqK K H (.ref a) (some us) := hx.elim (fun z => .lst z) (fun z => .tup z)
  obtain ⟨t, ty, kt⟩ := seqk_any (sk.same s1)
  refine ⟨_, p, _, t, _, _, rfl, upd_same, .cons (.ty _) (.cons (.ty _) .nil), ty, kt, _, rfl, iteF ?_⟩
  generalize upd H p (.tup [.ty "list", .ty "tuple"]) = H1 at s1
  have hx1 : SqL K H1 a us ∨ SqT K H1 a us := hx.elim (fun z => .inl (s1.seq z)) (fun z => .inr (same_tup s1 z))
  refine ⟨_, rfl, a, us, rfl, hx1, _, _, rfl, rfl, _, rfl, ?_⟩
  rw [decide_eq_false (show ¬ (400 : Int) < us.length by omega)]
  refine iteF ⟨_, rfl, a, rfl, us, hx1, fun J G wk hG D hD => ?_⟩
  refine lc_val wk (fun _ => .bl true) hD us1 hG (fun i u Ha Hb N hi s2 _ y k => ?_) (fun H2 s2 e => ?_)
  · obtain ⟨rfl, hu⟩ := y
    obtain ⟨r, hr1, ⟨b, rfl, hb⟩⟩ := paired_get pr hu
    have ok := hok r (List.mem_of_getElem? hr1)
    have s12 := s1.trans s2
    refine ⟨rfl, _, rfl, _, rfl, _, rfl, .ref b, c, n, some (r.map V.int), rfl, hb.elim (fun z => .lst (s12.seq z)) (fun z => .tup (same_tup s12 z)), fun xs ex => ?_, fun H3 s3 => ?_⟩
    · cases ex
      refine ⟨by rw [List.length_map, ok.1]; exact Nat.le_trans hn (by decide), fun H' y _ hy => ?_⟩
      obtain ⟨z, _, rfl⟩ := List.mem_map.mp hy
      exact tyI_int K H' z
    · rw [rowB_ok ok]
      exact k H3 s3
  · refine ⟨D, (List.range us.length).map fun _ => true, rfl, .of (by rw [e, List.map_map]; rfl), true, ?_, iteF ?_⟩
    · refine congrArg V.bl ?_
      rw [List.all_map, List.all_eq_true]
      exact fun _ _ => rfl
    · have s12 := s1.trans s2
      have hx2 : SqL K H2 a us ∨ SqT K H2 a us := hx.elim (fun z => .inl (s12.seq z)) (fun z => .inr (same_tup s12 z))
      refine ⟨_, rfl, a, rfl, us, hx2, fun J G wk hG D2 hD2 => ?_⟩
      refine lc_data (K := K) wk (fun i => dT (rs.getD i [])) hD2 us1 hG (fun i u Ha Hb N hi s3 hacc y k => ?_) (fun H3 xs s3 e3 hxs => ?_)
      · obtain ⟨rfl, hu⟩ := y
        obtain ⟨r, hr1, ⟨b, rfl, hb⟩⟩ := paired_get pr hu
        obtain ⟨acc, hacc⟩ := hacc
        have s13 := s12.trans s3
        rw [List.getD_eq_getElem?_getD, hr1] at k
        rcases hb with hb | hb
        · refine ⟨rfl, _, rfl, b, _, rfl, .inl ⟨s13.seq hb, fun T hT => k _ _ (same_upd hT) ?_⟩⟩
          have nT : T ≠ D2 := fun z => by rw [z, hacc] at hT; cases hT
          exact dp_T (.of (by rw [del_ne nT]; exact upd_same))
        · exact ⟨rfl, _, rfl, b, _, rfl, .inr ⟨same_tup s13 hb, k _ _ (Same.refl _) (dpT_del (dp_T (same_tup s13 hb)) hacc)⟩⟩
      · have z := map_range_getD rs [] dT
        rw [el, z] at hxs
        exact q _ _ (s12.trans s3) (.lst (.of e3) (dpa_same same_del hxs))
theorem ok_init (B : Bi mg) (Gl : Gs mg) (S : SpC K mg C) (c_need_clock : Cal P w K mg base (L2.CX P w) 3 "need_clock" ["value"] [] (sp_need_clock K Ck)) (c_need_number : Cal P w K mg base CX0 3 "need_number" ["value", "part", "least", "most"] [] (sp_need_number K))
    (c_least_in : Cal P w K mg base CX0 4 "least_in" ["clock", "rows"] [] (sp_least_in K)) (c_need_rows : Cal P w K mg base CX0 4 "need_rows" ["value", "clock", "size"] [] (sp_need_rows K))
    (F : FunD K "__init__" "Space.__init__" (defArgs s_Space___init) (defBody s_Space___init) (defScope s_Space___init) [] [] f fd) : FnOk P w K mg base CX0 5 f fd ["self", "clock", "size", "rows"] (sp_init K C) := by
  have nd := sc_Space___init.nd
  obtain ⟨t1, g_MOST_SIZE⟩ := Gl.g1
  have r_MOST_SIZE : RelV (.int 400) (Value.int 400 t1) := ⟨_, rfl⟩
  refine okN F sc_Space___init (fun vs H Q E h => by obtain ⟨x, dx, c, n, y, rs, rfl, _⟩ := h; rfl) (fun cdv A outer s H vs Q E hr h => ?_)
  have hr3 : Room 3 _ := hr.mono (by decide)
  have hr_need_clock := hr3
  have hr_need_number := hr3
  have hr_least_in := hr
  have hr_need_rows := hr
  refine ⟨_, (pss_cons (ps_expr (e_call c_need_clock hr_need_clock passL (pa_cons (pv 1) pa_nil)))
      (pss_cons (ps_expr (e_call c_need_number hr_need_number pass0 (pa_cons (pv 2) (pa_cons pe_str (pa_cons pe_int (pa_cons (pe_glob rfl g_MOST_SIZE r_MOST_SIZE) pa_nil))))))
      (pss_cons (ps_fld (pv 0) (pv 1) rfl)
      (pss_cons (ps_fld (pv 0) (pv 2) rfl)
      (pss_cons (ps_fld (pv 0) (e_call c_least_in hr_least_in pass0 (pa_cons (pv 1) (pa_cons (e_call c_need_rows hr_need_rows pass0 (pa_cons (pv 3) (pa_cons (pv 1) (pa_cons (pv 2) pa_nil)))) pa_nil))) rfl)
      (pss_one (ps_fld (pv 0) (pe_callB (kLen K) rfl B.len bt_len (pa_cons (kFld K (pv 0) rfl) pa_nil)) rfl))))))), ?_⟩
  obtain ⟨x, dx, c, n, y, rs, rfl, hx, hy, hc, n1, n2, hok, hlen, q⟩ := h
  have ck : clockB (.int c) = true := by
    rcases hc with h | h | h | h | h <;> (rw [h]; decide)
  refine ⟨_, rfl, .int c, rfl, tyI_int K H c, fun _ => ?_, fun z => by rw [ck] at z; cases z⟩
  refine ⟨_, rfl, (n : Int), _, 1, 400, rfl, by omega, by omega, ?_⟩
  -- self.clock = clock
  refine ⟨_, rfl, _, rfl, x, C, dx, _, rfl, hx, S.cl, S.n1, (by show 0 < 1000; decide), ?_⟩
  refine ⟨_, rfl, _, rfl, x, C, dx, _, rfl, upd_same, S.cl, S.n2, (by show 1 < 1000; decide), ?_⟩
  rw [upd_upd]
  generalize hH1 : upd H x (.ins C dx (putF "size" (.int (n : Int)) (putF "clock" (.int c) []))) = H1
  have hx1 : H1 x = some (.ins C dx [("clock", .int c), ("size", .int (n : Int))]) := by rw [← hH1]; exact upd_same
  have s01 : Same (del H x) H1 := by
    rw [← hH1]
    intro b o e
    have nb : b ≠ x := fun z => by rw [z, del_at] at e; cases e
    rw [upd_ne nb]
    exact same_del _ _ e
  have hy1 : RowsV K H1 y rs := (rowsV_ins hx hy).same s01
  refine ⟨_, rfl, _, rfl, _, rfl, _, rfl, y, c, n, rs, rfl, hy1, hok, hlen, by omega, fun H2 v2 s2 hv2 => ?_⟩
  refine ⟨c, n, v2, rs, rfl, hv2, hc, hok, by omega, fun H3 v3 s3 hv3 => ?_⟩
  have s13 := s2.trans s3
  have hx3 := s13 _ _ hx1
  obtain ⟨rr, vs, rfl, hrr, hvs⟩ := dp_tup' hv3
  refine ⟨_, rfl, x, C, dx, _, rfl, hx3, S.cl, S.n3, (by show 2 < 1000; decide), ?_⟩
  generalize hH4 : upd H3 x (.ins C dx (putF "rows" (.ref rr) [("clock", .int c), ("size", .int (n : Int))])) = H4
  have hx4 : H4 x = some (.ins C dx [("clock", .int c), ("size", .int (n : Int)), ("rows", .ref rr)]) := by rw [← hH4]; exact upd_same
  have s34 : Same (del H3 x) H4 := by
    rw [← hH4]
    intro b o e
    have nb : b ≠ x := fun z => by rw [z, del_at] at e; cases e
    rw [upd_ne nb]
    exact same_del _ _ e
  have hv4 := dp_same s34 (dp_ins hx3 hv3)
  have hrr4 : SqT K H4 rr vs := same_tup s34 (tup_ins hrr hx3)
  have el : vs.length = (leastIn c rs).length := by rw [dpa_length hvs, List.length_map]
  refine ⟨_, rfl, x, C, dx, _, _, rfl, hx4, S.cl, S.n3, rfl, rr, vs, rfl, .inr hrr4, ?_⟩
  refine ⟨_, rfl, x, C, dx, _, rfl, hx4, S.cl, S.n4, (by show 3 < 1000; decide), ?_⟩
  have s45 : Same (del H4 x) (upd H4 x (.ins C dx (putF "depth" (.int (vs.length : Int)) [("clock", .int c), ("size", .int (n : Int)), ("rows", .ref rr)]))) := by
    intro b o e
    have nb : b ≠ x := fun z => by rw [z, del_at] at e; cases e
    rw [upd_ne nb]
    exact same_del _ _ e
  refine q _ rr ?_ ?_ (dp_same s45 (dp_ins hx4 hv4))
  · intro b o e
    have nb : b ≠ x := fun z => by rw [z, del_at] at e; cases e
    have e3 := s13 _ _ (s01 _ _ e)
    have e4 := s34 b o (by rw [del_ne nb]; exact e3)
    exact s45 b o (by rw [del_ne nb]; exact e4)
  · rw [upd_same, el]
    rfl
end
end K61

set_option Elab.async false
set_option linter.all false
set_option maxRecDepth 100000
set_option maxHeartbeats 4000000
/-! The walks: spaces made of spaces, whites and blacks of rows, swing. -/
namespace K61
open PySem PySem.Spec PyProof.Rows L2
/-- Space, as its callers have it -/
structure SpM (P : Program) (w : World) (K : PySem.W.Frag) (mg : Str → Option Value) (base : Heap) (C : Addr) : Prop where
  gC : mg "Space" = some (.ref C)
  ex : ∃ (f : Addr) (fd : FuncData), Mk K C f ∧ FnOk P w K mg base CX0 5 f fd ["self", "clock", "size", "rows"] (sp_init K C) ∧ L2.Binds K fd ["self", "clock", "size", "rows"] []
theorem e_space {X : Cx} {C : Addr} {p pos : Pos} {e : Expr} {es : List Expr} {t : TA} (M : SpM X.prog X.w X.K X.mg X.base C) (hr : Room 6 X.A) (ha : PA X (e :: es) t) (hg : Gl X "Space" := by rfl)
    (he : starEach (e :: es) X.env = (false, eval e X.env) :: starEach es X.env := by rfl) (hpl : (backTo pos (starEach es X.env)).any (·.1) = false := by rfl) :
    PE X (.Call (.Name "Space" p) (e :: es) [] pos) (tMake C (sp_init X.K C) [] E0 t) := by
  obtain ⟨f, fd, h1, h2, h3⟩ := M.ex
  exact pe_make h1 h2 hr hg M.gC h3 .nil pass0 ha (by decide) he hpl
theorem made {K : PySem.W.Frag} {H : Hp} {C : Addr} {c : Int} {n : Nat} {y : V} {rs : List (List Int)} {Q : VK} {E : XK} (hy : RowsV K H y rs) (hc : Clock c) (n1 : 1 ≤ n) (n2 : n ≤ 400) (hok : ∀ r ∈ rs, RowOk c n r) (hlen : rs.length ≤ 400)
    (q : ∀ H' v, Same H H' → SpaceAt K H' C v c n (leastIn c rs) → Q v H') :
    ∀ x dx, H x = none → H dx = none → dx ≠ x → sp_init K C (.ref x :: ([.int c, .int (n : Nat), y] ++ [])) (upd (upd H dx (.own x)) x (.ins C dx [])) (fun v H2 => v = .non ∧ Q (.ref x) H2) E := by
  intro x dx hx hdx ne
  have s : Same H (upd (upd H dx (.own x)) x (.ins C dx [])) := fun b o e => by
    rw [upd_ne (ne_of_none e hx), upd_ne (ne_of_none e hdx)]
    exact e
  refine ⟨x, dx, c, n, y, rs, rfl, upd_same, hy.same s, hc, n1, n2, hok, hlen, fun H' r s' hx' hd => ⟨rfl, q H' (.ref x) (fun b o e => s' b o ?_) ⟨x, dx, r, rfl, hx', hd⟩⟩⟩
  rw [del_ne (ne_of_none e hx)]
  exact s b o e
abbrev s_swing : Stmt := top 49
abbrev N_swing : List Str := ["clock", "one", "other", "mine", "its"]
theorem sc_swing : FnScope N_swing ["clock", "one", "other"] (defScope s_swing) := ⟨rfl, rfl, rfl, by decide +kernel, rfl, by decide +kernel, by decide +kernel⟩
abbrev s_fair_by : Stmt := top 57
abbrev N_fair_by : List Str := ["space", "clock", "many", "rows", "row"]
theorem sc_fair_by : FnScope N_fair_by ["space"] (defScope s_fair_by) := ⟨rfl, rfl, rfl, by decide +kernel, rfl, by decide +kernel, by decide +kernel⟩
abbrev s_fair_of : Stmt := top 59
abbrev N_fair_of : List Str := ["space"]
theorem sc_fair_of : FnScope N_fair_of ["space"] (defScope s_fair_of) := ⟨rfl, rfl, rfl, by decide +kernel, rfl, by decide +kernel, by decide +kernel⟩
abbrev s_whites : Stmt := top 60
abbrev N_whites : List Str := ["clock", "row"]
theorem sc_whites : FnScope N_whites ["clock", "row"] (defScope s_whites) := ⟨rfl, rfl, rfl, by decide +kernel, rfl, by decide +kernel, by decide +kernel⟩
abbrev s_blacks : Stmt := top 61
abbrev N_blacks : List Str := ["clock", "row"]
theorem sc_blacks : FnScope N_blacks ["clock", "row"] (defScope s_blacks) := ⟨rfl, rfl, rfl, by decide +kernel, rfl, by decide +kernel, by decide +kernel⟩
abbrev s_white_space : Stmt := top 62
abbrev N_white_space : List Str := ["space", "row"]
theorem sc_white_space : FnScope N_white_space ["space"] (defScope s_white_space) := ⟨rfl, rfl, rfl, by decide +kernel, rfl, by decide +kernel, by decide +kernel⟩
abbrev s_black_space : Stmt := top 63
abbrev N_black_space : List Str := ["space", "row"]
theorem sc_black_space : FnScope N_black_space ["space"] (defScope s_black_space) := ⟨rfl, rfl, rfl, by decide +kernel, rfl, by decide +kernel, by decide +kernel⟩
abbrev s_Space___eq : Stmt := mth 2
abbrev N_Space___eq : List Str := ["self", "other"]
theorem sc_Space___eq : FnScope N_Space___eq ["self", "other"] (defScope s_Space___eq) := ⟨rfl, rfl, rfl, by decide +kernel, rfl, by decide +kernel, by decide +kernel⟩
def sp_space_in (K : PySem.W.Frag) (C : Addr) : Sp := fun vs H Q _ => ∃ c n x rs, vs = [.int c, .int (n : Nat), x] ∧ Dp K H x (dLT rs) ∧ Clock c ∧ 1 ≤ n ∧ n ≤ 400 ∧ (∀ r ∈ rs, RowOk c n r) ∧ ∀ H' v, Same H H' → SpaceAt K H' C v c n (leastIn c (leastIn c rs)) → Q v H'
def sp_upright (K : PySem.W.Frag) (C : Addr) : Sp := fun vs H Q _ => ∃ x c n F, vs = [x] ∧ SpaceAt K H C x c n (F.map (·.2)) ∧ Clock c ∧ 1 ≤ n ∧ n ≤ 400 ∧ Red c n F ∧ ∀ H' v, Same H H' → SpaceAt K H' C v c n (uprOf c n F) → Q v H'
def sp_fair_by (K : PySem.W.Frag) (C : Addr) : Sp := fun vs H Q _ => ∃ x c n F, vs = [x] ∧ SpaceAt K H C x c n (F.map (·.2)) ∧ Clock c ∧ 1 ≤ n ∧ n ≤ 7 ∧ Red c n F ∧ ∀ H' v, Same H H' → SpaceAt K H' C v c (2 * (n + 1)) (leastIn c (fairRows c n F)) → Q v H'
/-- x is no space -/
def NoSp (K : PySem.W.Frag) (H : Hp) (C : Addr) (x : V) : Prop := ∃ t, TyX K H x t ∧ PySem.W.kitOne K t (.ref C) = some false
def sp_fair_of (K : PySem.W.Frag) (C Cs Cm : Addr) : Sp := fun vs H Q E => ∃ x, vs = [x] ∧
  ((∃ c n F, SpaceAt K H C x c n (F.map (·.2)) ∧ (n ≤ 7 → Clock c ∧ 1 ≤ n ∧ Red c n F ∧ ∀ H' v, Same H H' → SpaceAt K H' C v c (2 * (n + 1)) (leastIn c (fairRows c n F)) → Q v H') ∧ (7 < n → ∀ d, H d = none → E (.ref Cm) (some d) (xPart "space" d H))) ∨
  (NoSp K H C x ∧ ∀ d, H d = none → E (.ref Cs) (some d) (xPart "space" d H)))
def ringB (n : Nat) : Bool := decide (4 ≤ n ∧ n < 17 ∧ n % 2 = 0)
/-- white_space, black_space: f the rows' whites, blacks -/
def sp_half (K : PySem.W.Frag) (C Cs Cm : Addr) (f : Int → List Int → List Int) : Sp := fun vs H Q E => ∃ x, vs = [x] ∧
  ((∃ c n rows, SpaceAt K H C x c n rows ∧ (ringB n = true → Clock c ∧ (∀ r ∈ rows, RowOk c n r) ∧ rows.length ≤ 400 ∧ ∀ H' v, Same H H' → SpaceAt K H' C v c (n / 2 - 1) (leastIn c (rows.map (f c))) → Q v H') ∧ (ringB n = false → ∀ H' d, Same H H' → H' d = none → E (.ref Cm) (some d) (xPart "space" d H'))) ∨
  (NoSp K H C x ∧ ∀ d, H d = none → E (.ref Cs) (some d) (xPart "space" d H)))
/-- whites, blacks of a row -/
def sp_rowf (K : PySem.W.Frag) (Ck Cr : Addr) (f : Int → List Int → List Int) : Sp := fun vs H Q E => ∃ x y r, vs = [x, y] ∧ TyI K H x ∧ SeqK K H y r ∧ SeqTy K H r ∧ (clockB x = false → ∀ d, H d = none → E (.ref Ck) (some d) (xPart "clock" d H)) ∧
  (clockB x = true → ∃ c, x = .int c ∧ Clock c ∧ (sizedB c 4 16 r = true → ∀ ns, r = some (ns.map V.int) → ∀ H' v, Same H H' → Dp K H' v (dT (f c ns)) → Q v H') ∧ (sizedB c 4 16 r = false → ∀ H' d, Same H H' → H' d = none → E (.ref Cr) (some d) (xPart "row" d H')))
def sp_swing (K : PySem.W.Frag) : Sp := fun vs H Q _ => ∃ c n x y a b, vs = [.int c, x, y] ∧ Clock c ∧ RowV K H x a ∧ RowV K H y b ∧ RowOk c n a ∧ RowOk c n b ∧ 2 ≤ n ∧ n ≤ 16 ∧ n % 2 = 0 ∧ ∀ H', Same H H' → Q (.int (swingOf c a b)) H'
theorem rowV_seq {K : PySem.W.Frag} {H : Hp} {v : V} {r : List Int} (h : RowV K H v r) : SeqK K H v (some (r.map V.int)) := by
  obtain ⟨a, rfl, h⟩ := h
  exact h.elim (fun z => .lst z) (fun z => .tup z)
theorem ints_ty {K : PySem.W.Frag} {H : Hp} {r : List Int} (h : r.length ≤ 1000) : SeqTy K H (some (r.map V.int)) := fun xs e => by
  cases e
  refine ⟨by rw [List.length_map]; exact Nat.le_trans h (by decide), fun H' y _ hy => ?_⟩
  obtain ⟨z, _, rfl⟩ := List.mem_map.mp hy
  exact tyI_int K H' z
theorem map_int_inj : ∀ {a b : List Int}, a.map V.int = b.map V.int → a = b
  | [], [], _ => rfl
  | [], _ :: _, h => by cases h
  | _ :: _, [], h => by cases h
  | x :: a, y :: b, h => by
    rw [List.map_cons, List.map_cons] at h
    injection h with h1 h2
    injection h1 with h1
    rw [h1, map_int_inj h2]
theorem clock_in {c : Int} (h : Clock c) : clockB (.int c) = true := by
  rcases h with h | h | h | h | h <;> (rw [h]; decide)
section
variable {P : Program} {w : World} {K : PySem.W.Frag} {mg : Str → Option Value} {base : Heap} {f : Addr} {fd : FuncData} {C Ck Cr Cs Cm fk fr fs fm : Addr}
theorem ok_space_in (m_Space : SpM P w K mg base C) (c_least_in : Cal P w K mg base CX0 4 "least_in" ["clock", "rows"] [] (sp_least_in K)) (F : FnP K "space_in" s_space_in f fd) : FnOk P w K mg base CX0 7 f fd ["clock", "size", "rows"] (sp_space_in K C) := by
  have nd := sc_space_in.nd
  refine okN F sc_space_in (fun vs H Q E h => by obtain ⟨c, n, x, rs, rfl, _⟩ := h; rfl) (fun cdv A outer s H vs Q E hr h => ?_)
  have hr_Space := hr
  have hr_least_in : Room 4 _ := hr.mono (by decide)
  refine ⟨_, (pss_one (ps_ret (e_space m_Space hr_Space (pa_cons (pv 0) (pa_cons (pv 1) (pa_cons (e_call c_least_in hr_least_in pass0 (pa_cons (pv 0) (pa_cons (pv 2) pa_nil))) pa_nil)))))), ?_⟩
  obtain ⟨c, n, x, rs, rfl, hx, hc, n1, n2, hok, q⟩ := h
  refine ⟨_, rfl, _, rfl, _, rfl, _, rfl, c, n, x, rs, rfl, hx, hc, hok, by omega, fun H1 v s1 hv => ?_⟩
  exact made (rowsV_TT hv) hc n1 n2 (leastIn_ok hc hok) (Nat.le_trans (leastIn_len hc hok) n2) fun H' v' s' hs => q H' v' (s1.trans s') hs
theorem ok_upright_in (S : SpC K mg C) (c_space_in : Cal P w K mg base CX0 7 "space_in" ["clock", "size", "rows"] [] (sp_space_in K C)) (c_upright_rows : Cal P w K mg base CX0 3 "upright_rows" ["space"] [] (sp_upright_rows K C)) (F : FnP K "upright_in" s_upright_in f fd) :
    FnOk P w K mg base CX0 8 f fd ["space"] (sp_upright K C) := by
  have nd := sc_upright_in.nd
  refine okN F sc_upright_in (fun vs H Q E h => by obtain ⟨x, c, n, F, rfl, _⟩ := h; rfl) (fun cdv A outer s H vs Q E hr h => ?_)
  have hr_space_in := hr
  have hr_upright_rows : Room 3 _ := hr.mono (by decide)
  refine ⟨_, (pss_one (ps_ret (e_call c_space_in hr_space_in pass0 (pa_cons (kFld K (pv 0) rfl) (pa_cons (kFld K (pv 0) rfl) (pa_cons (e_call c_upright_rows hr_upright_rows pass0 (pa_cons (pv 0) pa_nil)) pa_nil)))))), ?_⟩
  obtain ⟨x, c, n, F, rfl, hx, hc, n1, n2, hF, q⟩ := h
  have hx0 := hx
  obtain ⟨a, dx, r, rfl, ha, hr2⟩ := hx
  refine ⟨_, rfl, a, C, dx, _, _, rfl, ha, S.cl, S.n1, rfl, _, rfl, a, C, dx, _, _, rfl, ha, S.cl, S.n2, rfl, _, rfl, .ref a, c, n, F, rfl, hx0, hc, hF, by omega, fun H1 v s1 hv => ?_⟩
  exact ⟨c, n, v, _, rfl, hv, hc, n1, n2, upRows_ok hc, fun H' v' s' hs => q H' v' (s1.trans s') hs⟩
theorem ok_upright (S : SpC K mg C) (I : SpI K C) (c_need_space : Cal P w K mg base (L2.CX P w) 1 "need_space" ["value", "part"] [.str "space"] (sp_need_space K C Cs)) (c_upright_in : Cal P w K mg base CX0 8 "upright_in" ["space"] [] (sp_upright K C)) (F : FnP K "upright" s_upright f fd) :
    FnOk P w K mg base CX0 9 f fd ["space"] (sp_upright K C) := by
  have nd := sc_upright.nd
  refine okN F sc_upright (fun vs H Q E h => by obtain ⟨x, c, n, F, rfl, _⟩ := h; rfl) (fun cdv A outer s H vs Q E hr h => ?_)
  have hr_upright_in := hr
  have hr_need_space : Room 1 _ := hr.mono (by decide)
  refine ⟨_, (pss_cons (ps_expr (e_call c_need_space hr_need_space passL (pa_cons (pv 0) pa_nil)))
      (pss_one (ps_ret (e_call c_upright_in hr_upright_in pass0 (pa_cons (pv 0) pa_nil))))), ?_⟩
  obtain ⟨x, c, n, F, rfl, hx, r⟩ := h
  exact ⟨_, rfl, x, "space", _, true, rfl, I.ty hx, kit_self K C, fun _ => ⟨_, rfl, x, c, n, F, rfl, hx, r⟩, fun z => nomatch z⟩
theorem ok_whites (Gl : Gs mg) (c_need_clock : Cal P w K mg base (L2.CX P w) 3 "need_clock" ["value"] [] (sp_need_clock K Ck)) (c_need_sized : Cal P w K mg base (L2.CX P w) 5 "need_sized" ["value", "clock", "part", "least", "most", "step"] [] (sp_need_sized K Cr))
    (c_whites_in : Cal P w K mg base CX0 1 "whites_in" ["clock", "row"] [] (sp_whites_in K)) (F : FnP K "whites" s_whites f fd) : FnOk P w K mg base (L2.CX P w) 6 f fd ["clock", "row"] (sp_rowf K Ck Cr whitesOf) := by
  have nd := sc_whites.nd
  obtain ⟨t5, g_LEAST_GAPS⟩ := Gl.g5
  obtain ⟨t6, g_MOST_GAPS_roped⟩ := Gl.g6
  have r_LEAST_GAPS : RelV (.int 4) (Value.int 4 t5) := ⟨_, rfl⟩
  have r_MOST_GAPS_roped : RelV (.int 16) (Value.int 16 t6) := ⟨_, rfl⟩
  refine F.ok sc_whites (fun vs H Q E h => by obtain ⟨x, y, r, rfl, _⟩ := h; rfl) (fun cdv A outer s H vs Q E hr h => ?_)
  have hr_need_sized := hr
  have hr_need_clock : Room 3 _ := hr.mono (by decide)
  have hr_whites_in : Room 1 _ := hr.mono (by decide)
  refine ⟨_, (pss_cons (ps_expr (e_call c_need_clock hr_need_clock (passes_call (takes_of rfl rfl rfl rfl) (fun _ _ _ _ h => h)) (pa_cons (pv 0) pa_nil)))
      (pss_one (ps_ret (e_call c_whites_in hr_whites_in pass0 (pa_cons (pv 0) (pa_cons (e_call c_need_sized hr_need_sized (passes_call (takes_of rfl rfl rfl rfl) (fun _ _ _ _ h => h)) (pa_cons (pv 1) (pa_cons (pv 0) (pa_cons pe_str (pa_cons (pe_glob rfl g_LEAST_GAPS r_LEAST_GAPS) (pa_cons (pe_glob rfl g_MOST_GAPS_roped r_MOST_GAPS_roped) (pa_cons pe_int pa_nil))))))) pa_nil)))))), ?_⟩
  obtain ⟨x, y, r, rfl, ty, sk, st, q1, q2⟩ := h
  refine ⟨_, rfl, x, rfl, ty, fun e => ?_, q1⟩
  obtain ⟨c, rfl, hc, q3, q4⟩ := q2 e
  refine ⟨_, rfl, _, rfl, _, rfl, y, c, "row", 4, 16, r, rfl, by omega, sk, st, fun eb H1 v ns s1 er hb hv => ?_, q4⟩
  subst er
  have eb' : (decide ((4 : Int) ≤ (ns.map V.int).length ∧ ((ns.map V.int).length : Int) < 16 + 1 ∧ (((ns.map V.int).length : Int) - 4) % 2 = 0) && (ns.map V.int).all (within 0 (c - 1))) = true := eb
  rw [Bool.and_eq_true, decide_eq_true_eq, List.length_map] at eb'
  obtain ⟨⟨l1, l2, l3⟩, _⟩ := eb'
  exact ⟨c, v, ns, rfl, hv, hc, by omega, by omega, fun H' v' s' hv' => q3 eb ns rfl H' v' (s1.trans s') hv'⟩
theorem ok_blacks (Gl : Gs mg) (c_need_clock : Cal P w K mg base (L2.CX P w) 3 "need_clock" ["value"] [] (sp_need_clock K Ck)) (c_need_sized : Cal P w K mg base (L2.CX P w) 5 "need_sized" ["value", "clock", "part", "least", "most", "step"] [] (sp_need_sized K Cr))
    (c_blacks_in : Cal P w K mg base CX0 1 "blacks_in" ["clock", "row"] [] (sp_blacks_in K)) (F : FnP K "blacks" s_blacks f fd) : FnOk P w K mg base (L2.CX P w) 6 f fd ["clock", "row"] (sp_rowf K Ck Cr blacksOf) := by
  have nd := sc_blacks.nd
  obtain ⟨t5, g_LEAST_GAPS⟩ := Gl.g5
  obtain ⟨t6, g_MOST_GAPS_roped⟩ := Gl.g6
  have r_LEAST_GAPS : RelV (.int 4) (Value.int 4 t5) := ⟨_, rfl⟩
  have r_MOST_GAPS_roped : RelV (.int 16) (Value.int 16 t6) := ⟨_, rfl⟩
  refine F.ok sc_blacks (fun vs H Q E h => by obtain ⟨x, y, r, rfl, _⟩ := h; rfl) (fun cdv A outer s H vs Q E hr h => ?_)
  have hr_need_sized := hr
  have hr_need_clock : Room 3 _ := hr.mono (by decide)
  have hr_blacks_in : Room 1 _ := hr.mono (by decide)
  refine ⟨_, (pss_cons (ps_expr (e_call c_need_clock hr_need_clock (passes_call (takes_of rfl rfl rfl rfl) (fun _ _ _ _ h => h)) (pa_cons (pv 0) pa_nil)))
      (pss_one (ps_ret (e_call c_blacks_in hr_blacks_in pass0 (pa_cons (pv 0) (pa_cons (e_call c_need_sized hr_need_sized (passes_call (takes_of rfl rfl rfl rfl) (fun _ _ _ _ h => h)) (pa_cons (pv 1) (pa_cons (pv 0) (pa_cons pe_str (pa_cons (pe_glob rfl g_LEAST_GAPS r_LEAST_GAPS) (pa_cons (pe_glob rfl g_MOST_GAPS_roped r_MOST_GAPS_roped) (pa_cons pe_int pa_nil))))))) pa_nil)))))), ?_⟩
  obtain ⟨x, y, r, rfl, ty, sk, st, q1, q2⟩ := h
  refine ⟨_, rfl, x, rfl, ty, fun e => ?_, q1⟩
  obtain ⟨c, rfl, hc, q3, q4⟩ := q2 e
  refine ⟨_, rfl, _, rfl, _, rfl, y, c, "row", 4, 16, r, rfl, by omega, sk, st, fun eb H1 v ns s1 er hb hv => ?_, q4⟩
  subst er
  have eb' : (decide ((4 : Int) ≤ (ns.map V.int).length ∧ ((ns.map V.int).length : Int) < 16 + 1 ∧ (((ns.map V.int).length : Int) - 4) % 2 = 0) && (ns.map V.int).all (within 0 (c - 1))) = true := eb
  rw [Bool.and_eq_true, decide_eq_true_eq, List.length_map] at eb'
  obtain ⟨⟨l1, l2, l3⟩, _⟩ := eb'
  exact ⟨c, v, ns, rfl, hv, hc, by omega, by omega, fun H' v' s' hv' => q3 eb ns rfl H' v' (s1.trans s') hv'⟩
end
end K61

set_option Elab.async false
set_option linter.all false
set_option maxRecDepth 100000
set_option maxHeartbeats 4000000
/-! The walks: fair spaces, white and black spaces, swing, ==. -/
namespace K61
open PySem PySem.Spec PyProof.Rows L2
/-- a comprehension's data, told without the list that is made (D) and without another one (Z) -/
theorem lc_data2 {K : PySem.W.Frag} {J : It} {n : Nat} {G : Hp → Prop} {Y : Nat → Hp → V → Hp → Prop} (w : Walk J n G Y) {g : TG} {te : TE} {vs : List Nat} {σ : L2.St} {H1 : Hp} {D : Addr} {Qd : Hp → Prop} (Z : Addr) (f : Nat → PyData) (hD : H1 D = none) (hn : n ≤ sizeLine)
    (hG : ∀ H, Same H1 H → G H)
    (hs : ∀ i x H H' (N : V → Hp → Prop), i < n → Same H1 H → (∃ acc, H D = some (.lst acc)) → Y i H x H' → (∀ y H4, Same H H4 → Dp K (del (del H4 D) Z) y (f i) → N y H4) → g x (wipe σ vs) H' fun σ2 H2 => wipe σ2 vs = wipe σ vs ∧ te σ2 H2 N)
    (hd : ∀ H xs, Same H1 H → H D = some (.lst xs) → DpAll K (del (del H D) Z) xs ((List.range n).map f) → Qd H) :
    ∃ W : Nat → Nat → Hp → Prop, (∃ m, W 0 m (upd H1 D (.lst []))) ∧ ∀ i m H, W i m H →
      (J.stop i H ∧ Qd H) ∨ (J.go i H ∧ ∃ Nx : Hp → Prop, (∀ H', Nx H' → ∃ m', m' < m ∧ W (i + 1) m' H') ∧ ∀ x H', J.yld i H x H' → g x (wipe σ vs) H' fun σ2 H2 => wipe σ2 vs = wipe σ vs ∧ tYes σ2 H2 fun b H3 =>
        if b = true then te σ2 H3 fun y H4 => ∃ acc, H4 D = some (.lst acc) ∧ acc.length < sizeLine ∧ Nx (upd H4 D (.lst (acc ++ [y]))) else Nx H3) := by
  refine lcg w (fun i acc H => DpAll K (del H Z) acc ((List.range i).map f)) hD hG (fun _ _ _ _ s r => dpa_same (same_dels s Z) r) .nil (fun i x H H' acc N N0 hi s ea r y k _ => ?_) hd
  refine hs i x H H' N hi s ⟨acc, ea⟩ y fun v H4 s4 d4 => k v H4 s4 ?_ ?_
  · rw [dpa_length r, List.length_map, List.length_range]
    omega
  · rw [List.range_succ, List.map_append]
    exact dpa_snoc d4 (dpa_same (same_dels (same_dels s4 D) Z) r)
/-- at R a list of lists of whole numbers -/
def RL (K : PySem.W.Frag) (H : Hp) (R : Addr) (rows : List (List Int)) : Prop := ∃ vs, H R = some (.lst vs) ∧ DpAll K (del H R) vs (rows.map dL)
theorem RL.same {K : PySem.W.Frag} {H H' : Hp} {R : Addr} {rows : List (List Int)} (s : Same H H') (h : RL K H R rows) : RL K H' R rows := by
  obtain ⟨vs, e, d⟩ := h
  exact ⟨vs, s _ _ e, dpa_same (same_dels s R) d⟩
theorem RL.rows {K : PySem.W.Frag} {H : Hp} {R : Addr} {rows : List (List Int)} (h : RL K H R rows) : RowsV K H (.ref R) rows := by
  obtain ⟨vs, e, d⟩ := h
  exact rowsV_LL (.lst (.of e) (dpa_same same_del d))
theorem same_over {H0 H : Hp} {R : Addr} {o : HO} (h0 : H0 R = none) (s : Same H0 H) : Same H0 (upd H R o) := fun b u e => by
  rw [upd_ne (ne_of_none e h0)]
  exact s b u e
theorem flat_ints (n : Nat) (x y : Int) : (List.replicate n [V.int x, V.int y]).flatten = ((List.replicate n [x, y]).flatten).map V.int := by
  rw [List.map_flatten, List.map_replicate]
  rfl
theorem made' {K : PySem.W.Frag} {H : Hp} {C : Addr} {c z : Int} {n : Nat} {y : V} {rs : List (List Int)} {Q : VK} {E : XK} (hz : z = ((n : Nat) : Int)) (hy : RowsV K H y rs) (hc : Clock c) (n1 : 1 ≤ n) (n2 : n ≤ 400) (hok : ∀ r ∈ rs, RowOk c n r) (hlen : rs.length ≤ 400)
    (q : ∀ H' v, Same H H' → SpaceAt K H' C v c n (leastIn c rs) → Q v H') :
    ∀ x dx, H x = none → H dx = none → dx ≠ x → sp_init K C (.ref x :: ([.int c, .int z, y] ++ [])) (upd (upd H dx (.own x)) x (.ins C dx [])) (fun v H2 => v = .non ∧ Q (.ref x) H2) E := by
  subst hz
  exact made hy hc n1 n2 hok hlen q
section
variable {P : Program} {w : World} {K : PySem.W.Frag} {mg : Str → Option Value} {base : Heap} {f : Addr} {fd : FuncData} {C Ck Cr Cs Cm fk fr fs fm : Addr}
theorem ok_fair_by (B : Bi mg) (S : SpC K mg C) (m_Space : SpM P w K mg base C) (c_upright : Cal P w K mg base CX0 9 "upright" ["space"] [] (sp_upright K C)) (c_with_whites : Cal P w K mg base CX0 1 "with_whites" ["whites"] [] (sp_with_whites K))
    (c_with_blacks : Cal P w K mg base CX0 1 "with_blacks" ["clock", "blacks"] [] (sp_with_blacks K)) (F : FnP K "fair_by" s_fair_by f fd) : FnOk P w K mg base CX0 10 f fd ["space"] (sp_fair_by K C) := by
  have nd := sc_fair_by.nd
  refine okN F sc_fair_by (fun vs H Q E h => by obtain ⟨x, c, n, F, rfl, _⟩ := h; rfl) (fun cdv A outer s H vs Q E hr h => ?_)
  have hr_upright := hr
  have hr_Space : Room 6 _ := hr.mono (by decide)
  have hr_with_whites : Room 1 _ := hr.mono (by decide)
  have hr_with_blacks : Room 1 _ := hr.mono (by decide)
  refine ⟨_, (pss_cons (ps_asg (pe_tup (pa_cons (kFld K (pv 0) rfl) (pa_cons (pe_op op_add (kFld K (pv 0) rfl) pe_int) pa_nil))) (pg_tup rfl (pgs_cons (pgn 1 nd) (pgs_cons (pgn 2 nd) pgs_nil))))
      (pss_cons (ps_asg (pe_lst (pa_cons (pe_op op_rep (pe_lst (pa_cons pe_int (pa_cons pe_int pa_nil))) (pv 2)) (pa_cons (pe_op op_rep (pe_lst (pa_cons pe_int (pa_cons pe_int pa_nil))) (pv 2)) pa_nil))) (pgn 3 nd))
      (pss_cons (ps_expr (pe_bm PySem.F.plainAttrs_list PySem.F.slot_list_extend PySem.F.type_list_extend mt_extend (pv 3) (pa_cons (pe_lc (own := [("row", 4)]) rfl nd (pi_tup (kFld K (pv 0) rfl)) (blkOk_by (N := N_fair_by) (sc := (defScope s_fair_by)) (by decide +kernel)) (fun _ _ _ _ _ => by exact (pgn 4 nd)) (fun _ _ _ _ _ => by exact pts_nil) (fun _ _ _ _ _ => by exact (e_call c_with_whites hr_with_whites pass0 (pa_cons (pv 4) pa_nil)))) pa_nil)))
      (pss_cons (ps_expr (pe_bm PySem.F.plainAttrs_list PySem.F.slot_list_extend PySem.F.type_list_extend mt_extend (pv 3) (pa_cons (pe_lc (own := [("row", 4)]) rfl nd (pi_tup (kFld K (e_call c_upright hr_upright pass0 (pa_cons (pv 0) pa_nil)) rfl)) (blkOk_by (N := N_fair_by) (sc := (defScope s_fair_by)) (by decide +kernel)) (fun _ _ _ _ _ => by exact (pgn 4 nd)) (fun _ _ _ _ _ => by exact pts_nil) (fun _ _ _ _ _ => by exact (e_call c_with_blacks hr_with_blacks pass0 (pa_cons (pv 1) (pa_cons (pv 4) pa_nil))))) pa_nil)))
      (pss_one (ps_ret (e_space m_Space hr_Space (pa_cons (pv 1) (pa_cons (pe_op op_mul pe_int (pv 2)) (pa_cons (pv 3) pa_nil)))))))))), ?_⟩
  obtain ⟨x, c, n, F, rfl, hx, hc, n1, n7, hF, q⟩ := h
  have hx0 := hx
  obtain ⟨a, dx, r, rfl, ha, hr2⟩ := hx
  -- clock, many = space.clock, space.size + 1
  refine ⟨_, rfl, a, C, dx, _, _, rfl, ha, S.cl, S.n1, rfl, _, rfl, a, C, dx, _, _, rfl, ha, S.cl, S.n2, rfl, (n : Int), 1, rfl, rfl, (by show 2 ≤ sizeLine; decide), fun T hT => ⟨T, _, rfl, .of upd_same, rfl, _, _, rfl, _, _, rfl, rfl, ?_⟩⟩
  have s1 : Same H (upd H T (.tup [.int c, .int ((n : Int) + 1)])) := same_upd hT
  generalize upd H T (.tup [.int c, .int ((n : Int) + 1)]) = H1 at s1
  have tn : ((n : Int) + 1).toNat = n + 1 := by omega
  -- rows = [[1, 0] * many, [0, 1] * many]
  refine ⟨(by show 2 ≤ sizeLine; decide), fun l1 hl1 => ⟨_, rfl, l1, _, _, rfl, rfl, upd_same, by omega, by omega, ?_, fun p1 hp1 => ⟨(by show 2 ≤ sizeLine; decide), fun l2 hl2 => ⟨_, rfl, l2, _, _, rfl, rfl, upd_same, by omega, by omega, ?_, fun p2 hp2 => ⟨(by show 2 ≤ sizeLine; decide), fun R hR => ?_⟩⟩⟩⟩⟩
  · rw [tn]
    have z : (1000 : Nat) ≤ sizeLine := by decide
    show 2 * (n + 1) ≤ sizeLine
    omega
  · rw [tn]
    have z : (1000 : Nat) ≤ sizeLine := by decide
    show 2 * (n + 1) ≤ sizeLine
    omega
  have f10 : (List.replicate (n + 1) [V.int 1, V.int 0]).flatten = (rep10 (n + 1)).map V.int := flat_ints _ _ _
  have f01 : (List.replicate (n + 1) [V.int 0, V.int 1]).flatten = (rep01 (n + 1)).map V.int := flat_ints _ _ _
  rw [tn, f10] at hl2
  rw [tn, f10] at hp2
  rw [tn, f10, f01] at hR
  rw [tn, f10, f01]
  have t1 := (same_upd (o := .lst [.int 1, .int 0]) hl1).trans (same_upd (o := .lst ((rep10 (n + 1)).map V.int)) hp1)
  have e1 : upd (upd H1 l1 (.lst [.int 1, .int 0])) p1 (.lst ((rep10 (n + 1)).map V.int)) p1 = some (.lst ((rep10 (n + 1)).map V.int)) := upd_same
  have t2 := (same_upd (o := .lst [.int 0, .int 1]) hl2).trans (same_upd (o := .lst ((rep01 (n + 1)).map V.int)) hp2)
  have e2 : upd (upd (upd (upd H1 l1 (.lst [.int 1, .int 0])) p1 (.lst ((rep10 (n + 1)).map V.int))) l2 (.lst [.int 0, .int 1])) p2 (.lst ((rep01 (n + 1)).map V.int)) p2 = some (.lst ((rep01 (n + 1)).map V.int)) := upd_same
  have e1' := t2 _ _ e1
  have s2 := (s1.trans t1).trans t2
  change upd (upd (upd (upd H1 l1 (.lst [.int 1, .int 0])) p1 (.lst ((rep10 (n + 1)).map V.int))) l2 (.lst [.int 0, .int 1])) p2 (.lst ((rep01 (n + 1)).map V.int)) R = none at hR
  show gName 3 (.ref R) _ (upd (upd (upd (upd (upd H1 l1 (.lst [.int 1, .int 0])) p1 (.lst ((rep10 (n + 1)).map V.int))) l2 (.lst [.int 0, .int 1])) p2 (.lst ((rep01 (n + 1)).map V.int))) R (.lst [.ref p1, .ref p2])) _
  generalize upd (upd (upd (upd H1 l1 (.lst [.int 1, .int 0])) p1 (.lst ((rep10 (n + 1)).map V.int))) l2 (.lst [.int 0, .int 1])) p2 (.lst ((rep01 (n + 1)).map V.int)) = H2 at hR e2 e1' s2
  have np1 : p1 ≠ R := ne_of_none e1' hR
  have np2 : p2 ≠ R := ne_of_none e2 hR
  have rl : RL K (upd H2 R (.lst [.ref p1, .ref p2])) R [rep10 (n + 1), rep01 (n + 1)] := by
    refine ⟨_, upd_same, ?_⟩
    rw [del_upd]
    exact .cons (dp_L (.of (by rw [del_ne np1]; exact e1'))) (.cons (dp_L (.of (by rw [del_ne np2]; exact e2))) .nil)
  have s3 : Same H2 (upd H2 R (.lst [.ref p1, .ref p2])) := same_upd hR
  generalize upd H2 R (.lst [.ref p1, .ref p2]) = H3 at rl s3
  have s23 := s2.trans s3
  -- rows.extend([with_whites(row) for row in space.rows])
  obtain ⟨rr, us, er, hrr, hus⟩ := dp_tup' hr2
  cases er
  have el : us.length = F.length := by rw [dpa_length hus, List.length_map, List.length_map]
  have fl := hF.len
  have sz : (1000 : Nat) ≤ sizeLine := by decide
  obtain ⟨vs3, ev3, hv3⟩ := rl
  refine ⟨_, rfl, .inl ⟨rfl, _, .of ev3⟩, _, rfl, a, C, dx, _, _, rfl, s23 _ _ ha, S.cl, S.n3, rfl, r, rfl, ⟨_, same_tup s23 hrr⟩, fun D hD => ?_⟩
  refine lc_data2 (K := K) (walk_tup (xs := us)) R (fun i => dL (withW ((F.map (·.2)).getD i []))) hD (by omega) (fun H' z => same_tup (s23.trans z) hrr) (fun i u Ha Hb N hi s4 hacc y k => ?_) (fun H4 xs s4 eD hxs => ?_)
  · obtain ⟨rfl, hu⟩ := y
    obtain ⟨row, hrow, hd⟩ := row_get (dpa_same (s23.trans s4) hus) hu
    obtain ⟨acc, hacc⟩ := hacc
    have rl0 : row.length ≤ 1000 := by
      rw [List.getElem?_map] at hrow
      cases ep : F[i]? with
      | none => rw [ep] at hrow; cases hrow
      | some p =>
        rw [ep] at hrow
        cases hrow
        rw [(hF.row p (List.mem_of_getElem? ep)).1]
        omega
    refine ⟨rfl, _, rfl, u, row, rfl, hd, rl0, fun H5 p5 s5 np5 e5 => k _ _ s5 ?_⟩
    rw [List.getD_eq_getElem?_getD, hrow]
    have nD : p5 ≠ D := fun z => by rw [z, hacc] at np5; cases np5
    have nR : p5 ≠ R := fun z => by rw [z, s4 _ _ ev3] at np5; cases np5
    exact dp_L (.of (by rw [del_ne nR, del_ne nD]; exact e5))
  · have z := map_range_getD (F.map (·.2)) [] fun r => dL (withW r)
    rw [List.length_map] at z
    rw [el, z] at hxs
    have ev4 := s4 _ _ ev3
    have nDR : R ≠ D := ne_of_none ev3 hD
    refine ⟨R, D, _, _, rfl, rfl, ev4, eD, ?_, ?_⟩
    · rw [dpa_length hv3, dpa_length hxs, List.length_map, List.length_map, List.length_map]
      show 2 + F.length ≤ sizeLine
      omega
    have s24 : Same H2 H4 := s3.trans s4
    have rl4 : RL K (upd H4 R (.lst (vs3 ++ xs))) R ([rep10 (n + 1), rep01 (n + 1)] ++ (F.map (·.2)).map withW) := by
      refine ⟨_, upd_same, ?_⟩
      rw [del_upd, List.map_append, List.map_map]
      exact dpa_app (dpa_same (same_dels same_del R) hxs) (dpa_same (same_dels s4 R) hv3)
    have s5 : Same H2 (upd H4 R (.lst (vs3 ++ xs))) := same_over hR s24
    generalize upd H4 R (.lst (vs3 ++ xs)) = H5 at rl4 s5
    have s05 := s2.trans s5
    obtain ⟨vs5, ev5, hv5⟩ := rl4
    -- rows.extend([with_blacks(clock, row) for row in upright(space).rows])
    refine ⟨_, rfl, .inl ⟨rfl, _, .of ev5⟩, _, rfl, .ref a, c, n, F, rfl, SpaceAt.same s05 hx0, hc, n1, by omega, hF, fun H6 v6 s6 hs6 => ?_⟩
    obtain ⟨a6, dx6, r6, rfl, ha6, hr6⟩ := hs6
    obtain ⟨rr6, us6, er6, hrr6, hus6⟩ := dp_tup' hr6
    cases er6
    have el6 : us6.length = (uprOf c n F).length := by rw [dpa_length hus6, List.length_map]
    have ul := uprOf_len (F := F) (n := n) hc
    refine ⟨a6, C, dx6, _, _, rfl, ha6, S.cl, S.n3, rfl, r6, rfl, ⟨_, hrr6⟩, fun D6 hD6 => ?_⟩
    have ev6 := s6 _ _ ev5
    refine lc_data2 (K := K) (walk_tup (xs := us6)) R (fun i => dL (withB c ((uprOf c n F).getD i []))) hD6 (by omega) (fun H' z => same_tup z hrr6) (fun i u Ha Hb N hi s7 hacc y k => ?_) (fun H7 xs7 s7 eD7 hxs7 => ?_)
    · obtain ⟨rfl, hu⟩ := y
      obtain ⟨row, hrow, hd⟩ := row_get (dpa_same s7 hus6) hu
      obtain ⟨acc, hacc⟩ := hacc
      have okr := uprOf_ok hc row (List.mem_of_getElem? hrow)
      refine ⟨rfl, _, rfl, _, rfl, c, u, row, rfl, hd, hc, by rw [okr.1]; omega, fun H8 p8 s8 np8 e8 => k _ _ s8 ?_⟩
      rw [List.getD_eq_getElem?_getD, hrow]
      have nD : p8 ≠ D6 := fun z => by rw [z, hacc] at np8; cases np8
      have nR : p8 ≠ R := fun z => by rw [z, s7 _ _ ev6] at np8; cases np8
      exact dp_L (.of (by rw [del_ne nR, del_ne nD]; exact e8))
    · have z := map_range_getD (uprOf c n F) [] fun r => dL (withB c r)
      rw [el6, z] at hxs7
      have ev7 := s7 _ _ ev6
      refine ⟨R, D6, _, _, rfl, rfl, ev7, eD7, ?_, ?_⟩
      · rw [dpa_length hv5, dpa_length hxs7, List.length_map, List.length_map, List.length_append, List.length_map, List.length_map]
        show 2 + F.length + (uprOf c n F).length ≤ sizeLine
        omega
      have rl7 : RL K (upd H7 R (.lst (vs5 ++ xs7))) R (fairRows c n F) := by
        refine ⟨_, upd_same, ?_⟩
        unfold fairRows
        rw [del_upd, List.map_append, List.map_map (g := dL)]
        exact dpa_app (dpa_same (same_dels same_del R) hxs7) (dpa_same (same_dels (s6.trans s7) R) hv5)
      have s8 : Same H2 (upd H7 R (.lst (vs5 ++ xs7))) := same_over hR ((s5.trans s6).trans s7)
      generalize upd H7 R (.lst (vs5 ++ xs7)) = H8 at rl7 s8
      have e2n : (2 : Int) * ((n : Int) + 1) = ((2 * (n + 1) : Nat) : Int) := by omega
      have fl2 := fairRows_len hc hF
      refine ⟨_, rfl, _, rfl, 2, (n : Int) + 1, rfl, rfl, .inl ⟨by omega, by omega⟩, _, rfl, ?_⟩
      exact made' e2n rl7.rows hc (by omega) (by omega) (fairRows_ok hc hF) (by omega) fun H' v' s' hs => q H' v' ((s2.trans s8).trans s') hs
theorem ok_fair_of (S : SpC K mg C) (I : SpI K C) (Gl : Gs mg) (x_Misfit : ExTxt P K mg "Misfit" "Misfit.__init__" Cm fm) (c_need_space : Cal P w K mg base (L2.CX P w) 1 "need_space" ["value", "part"] [.str "space"] (sp_need_space K C Cs)) (c_fair_by : Cal P w K mg base CX0 10 "fair_by" ["space"] [] (sp_fair_by K C))
    (F : FnP K "fair_of" s_fair_of f fd) : FnOk P w K mg base (L2.CX P w) 11 f fd ["space"] (sp_fair_of K C Cs Cm) := by
  have nd := sc_fair_of.nd
  obtain ⟨t3, g_MOST_NAMES⟩ := Gl.g3
  have r_MOST_NAMES : RelV (.int 7) (Value.int 7 t3) := ⟨_, rfl⟩
  refine F.ok sc_fair_of (fun vs H Q E h => by obtain ⟨x, rfl, _⟩ := h; rfl) (fun cdv A outer s H vs Q E hr h => ?_)
  have hr_fair_by := hr
  have hr_need_space : Room 1 _ := hr.mono (by decide)
  have hrx := hr
  refine ⟨_, (pss_cons (ps_expr (e_call c_need_space hr_need_space (passes_call (takes_of rfl rfl rfl rfl) (fun _ _ _ _ h => h)) (pa_cons (pv 0) pa_nil)))
      (pss_cons (ps_if (pt_cmpR op_gt (kFld K (pv 0) rfl) (pe_glob rfl g_MOST_NAMES r_MOST_NAMES) (nomark _)) (pss_one (ps_raiseP rfl x_Misfit hrx (takes_of rfl rfl rfl rfl) (pa_cons pe_str pa_nil))) pss_nil)
      (pss_one (ps_ret (e_call c_fair_by hr_fair_by pass0 (pa_cons (pv 0) pa_nil)))))), ?_⟩
  obtain ⟨x, rfl, ⟨c, n, F, hs, q1, q2⟩ | ⟨⟨t, ty, kt⟩, q⟩⟩ := h
  · refine ⟨_, rfl, x, "space", _, true, rfl, I.ty hs, kit_self K C, fun _ => ?_, fun z => nomatch z⟩
    have hs0 := hs
    obtain ⟨a, dx, r, rfl, ha, hr2⟩ := hs
    refine ⟨_, rfl, a, C, dx, _, _, rfl, ha, S.cl, S.n2, rfl, _, _, rfl, rfl, _, rfl, ?_⟩
    by_cases h7 : 7 < n
    · rw [decide_eq_true (show (7 : Int) < (n : Int) by omega)]
      exact iteT ⟨_, rfl, fun d hd => q2 h7 d hd⟩
    · rw [decide_eq_false (show ¬ (7 : Int) < (n : Int) by omega)]
      obtain ⟨hc, n1, hF, q3⟩ := q1 (by omega)
      exact iteF ⟨_, rfl, .ref a, c, n, F, rfl, hs0, hc, n1, by omega, hF, q3⟩
  · exact ⟨_, rfl, x, "space", t, false, rfl, ty, kt, (fun z => nomatch z), fun _ d hd => q d hd⟩
theorem ok_white_space (S : SpC K mg C) (m_Space : SpM P w K mg base C) (c_need_ring : Cal P w K mg base (L2.CX P w) 2 "need_ring" ["space"] [] (sp_need_ring K C Cs Cm)) (c_whites_in : Cal P w K mg base CX0 1 "whites_in" ["clock", "row"] [] (sp_whites_in K))
    (F : FnP K "white_space" s_white_space f fd) : FnOk P w K mg base (L2.CX P w) 7 f fd ["space"] (sp_half K C Cs Cm whitesOf) := by
  have nd := sc_white_space.nd
  refine F.ok sc_white_space (fun vs H Q E h => by obtain ⟨x, rfl, _⟩ := h; rfl) (fun cdv A outer s H vs Q E hr h => ?_)
  have hr_Space := hr
  have hr_need_ring : Room 2 _ := hr.mono (by decide)
  have hr_whites_in : Room 1 _ := hr.mono (by decide)
  refine ⟨_, (pss_cons (ps_expr (e_call c_need_ring hr_need_ring (passes_call (takes_of rfl rfl rfl rfl) (fun _ _ _ _ h => h)) (pa_cons (pv 0) pa_nil)))
      (pss_one (ps_ret (e_space m_Space hr_Space (pa_cons (kFld K (pv 0) rfl) (pa_cons (pe_op op_sub (pe_op op_fdiv (kFld K (pv 0) rfl) pe_int) pe_int) (pa_cons (pe_lc (own := [("row", 1)]) rfl nd (pi_tup (kFld K (pv 0) rfl)) (blkOk_by (N := N_white_space) (sc := (defScope s_white_space)) (by decide +kernel)) (fun _ _ _ _ _ => by exact (pgn 1 nd)) (fun _ _ _ _ _ => by exact pts_nil) (fun _ _ _ _ _ => by exact (e_call c_whites_in hr_whites_in pass0 (pa_cons (kFld K (pv 0) rfl) (pa_cons (pv 1) pa_nil))))) pa_nil))))))), ?_⟩
  obtain ⟨x, rfl, ⟨c, n, rows, hs, q1, q2⟩ | ⟨⟨t, ty, kt⟩, q⟩⟩ := h
  · refine ⟨_, rfl, x, rfl, .inl ⟨c, n, rows, hs, fun eb H1 s1 => ?_, q2⟩⟩
    obtain ⟨hc, hok, hlen, q3⟩ := q1 eb
    have eb' : 4 ≤ n ∧ n < 17 ∧ n % 2 = 0 := of_decide_eq_true eb
    obtain ⟨n4, n17, n2⟩ := eb'
    obtain ⟨a, dx, r, rfl, ha, hr2⟩ := hs
    have ha1 := s1 _ _ ha
    obtain ⟨rr, us, er, hrr, hus⟩ := dp_tup' (dp_same s1 hr2)
    cases er
    have el : us.length = rows.length := by rw [dpa_length hus, List.length_map]
    refine ⟨_, rfl, a, C, dx, _, _, rfl, ha1, S.cl, S.n1, rfl, _, rfl, a, C, dx, _, _, rfl, ha1, S.cl, S.n2, rfl, _, _, rfl, rfl, ⟨by decide, by decide⟩, _, _, rfl, rfl, _, rfl, a, C, dx, _, _, rfl, ha1, S.cl, S.n3, rfl, r, rfl, ⟨_, hrr⟩, fun D hD => ?_⟩
    refine lc_data (K := K) (walk_tup (xs := us)) (fun i => dT (whitesOf c (rows.getD i []))) hD (by rw [el]; exact Nat.le_trans hlen (by decide)) (fun H' z => same_tup z hrr) (fun i u Ha Hb N hi s4 hacc y k => ?_) (fun H4 xs s4 eD hxs => ?_)
    · obtain ⟨rfl, hu⟩ := y
      obtain ⟨row, hrow, hd⟩ := row_get (dpa_same s4 hus) hu
      obtain ⟨acc, hacc⟩ := hacc
      have okr := hok row (List.mem_of_getElem? hrow)
      refine ⟨rfl, _, rfl, a, C, dx, _, _, rfl, s4 _ _ ha1, S.cl, S.n1, rfl, _, rfl, c, u, row, rfl, hd, hc, by rw [okr.1]; omega, by rw [okr.1]; omega, fun H5 v s5 hv => k _ _ s5 ?_⟩
      rw [List.getD_eq_getElem?_getD, hrow]
      exact dpT_del hv (s5 _ _ hacc)
    · have z := map_range_getD rows [] fun r => dT (whitesOf c r)
      rw [el, z] at hxs
      have hd : Dp K H4 (.ref D) (dLT (rows.map (whitesOf c))) := .lst (.of eD) (by rw [List.map_map]; exact dpa_same same_del hxs)
      refine made' ?_ (rowsV_LT hd) hc (by omega) (by omega) (fun r hr => ?_) (by rw [List.length_map]; exact hlen) fun H' v' s' hs => q3 H' v' ((s1.trans s4).trans s') hs
      · have e := Int.fdiv_eq_ediv_of_nonneg (n : Int) (show (0 : Int) ≤ 2 by decide)
        first
          | omega
          | (rw [e]; omega)
      · obtain ⟨row, hrow, rfl⟩ := List.mem_map.mp hr
        exact whites_ok hc (hok row hrow).1 n4 n2
  · exact ⟨_, rfl, x, rfl, .inr ⟨t, ty, kt, q⟩⟩
theorem ok_black_space (S : SpC K mg C) (m_Space : SpM P w K mg base C) (c_need_ring : Cal P w K mg base (L2.CX P w) 2 "need_ring" ["space"] [] (sp_need_ring K C Cs Cm)) (c_blacks_in : Cal P w K mg base CX0 1 "blacks_in" ["clock", "row"] [] (sp_blacks_in K))
    (F : FnP K "black_space" s_black_space f fd) : FnOk P w K mg base (L2.CX P w) 7 f fd ["space"] (sp_half K C Cs Cm blacksOf) := by
  have nd := sc_black_space.nd
  refine F.ok sc_black_space (fun vs H Q E h => by obtain ⟨x, rfl, _⟩ := h; rfl) (fun cdv A outer s H vs Q E hr h => ?_)
  have hr_Space := hr
  have hr_need_ring : Room 2 _ := hr.mono (by decide)
  have hr_blacks_in : Room 1 _ := hr.mono (by decide)
  refine ⟨_, (pss_cons (ps_expr (e_call c_need_ring hr_need_ring (passes_call (takes_of rfl rfl rfl rfl) (fun _ _ _ _ h => h)) (pa_cons (pv 0) pa_nil)))
      (pss_one (ps_ret (e_space m_Space hr_Space (pa_cons (kFld K (pv 0) rfl) (pa_cons (pe_op op_sub (pe_op op_fdiv (kFld K (pv 0) rfl) pe_int) pe_int) (pa_cons (pe_lc (own := [("row", 1)]) rfl nd (pi_tup (kFld K (pv 0) rfl)) (blkOk_by (N := N_black_space) (sc := (defScope s_black_space)) (by decide +kernel)) (fun _ _ _ _ _ => by exact (pgn 1 nd)) (fun _ _ _ _ _ => by exact pts_nil) (fun _ _ _ _ _ => by exact (e_call c_blacks_in hr_blacks_in pass0 (pa_cons (kFld K (pv 0) rfl) (pa_cons (pv 1) pa_nil))))) pa_nil))))))), ?_⟩
  obtain ⟨x, rfl, ⟨c, n, rows, hs, q1, q2⟩ | ⟨⟨t, ty, kt⟩, q⟩⟩ := h
  · refine ⟨_, rfl, x, rfl, .inl ⟨c, n, rows, hs, fun eb H1 s1 => ?_, q2⟩⟩
    obtain ⟨hc, hok, hlen, q3⟩ := q1 eb
    have eb' : 4 ≤ n ∧ n < 17 ∧ n % 2 = 0 := of_decide_eq_true eb
    obtain ⟨n4, n17, n2⟩ := eb'
    obtain ⟨a, dx, r, rfl, ha, hr2⟩ := hs
    have ha1 := s1 _ _ ha
    obtain ⟨rr, us, er, hrr, hus⟩ := dp_tup' (dp_same s1 hr2)
    cases er
    have el : us.length = rows.length := by rw [dpa_length hus, List.length_map]
    refine ⟨_, rfl, a, C, dx, _, _, rfl, ha1, S.cl, S.n1, rfl, _, rfl, a, C, dx, _, _, rfl, ha1, S.cl, S.n2, rfl, _, _, rfl, rfl, ⟨by decide, by decide⟩, _, _, rfl, rfl, _, rfl, a, C, dx, _, _, rfl, ha1, S.cl, S.n3, rfl, r, rfl, ⟨_, hrr⟩, fun D hD => ?_⟩
    refine lc_data (K := K) (walk_tup (xs := us)) (fun i => dT (blacksOf c (rows.getD i []))) hD (by rw [el]; exact Nat.le_trans hlen (by decide)) (fun H' z => same_tup z hrr) (fun i u Ha Hb N hi s4 hacc y k => ?_) (fun H4 xs s4 eD hxs => ?_)
    · obtain ⟨rfl, hu⟩ := y
      obtain ⟨row, hrow, hd⟩ := row_get (dpa_same s4 hus) hu
      obtain ⟨acc, hacc⟩ := hacc
      have okr := hok row (List.mem_of_getElem? hrow)
      refine ⟨rfl, _, rfl, a, C, dx, _, _, rfl, s4 _ _ ha1, S.cl, S.n1, rfl, _, rfl, c, u, row, rfl, hd, hc, by rw [okr.1]; omega, by rw [okr.1]; omega, fun H5 v s5 hv => k _ _ s5 ?_⟩
      rw [List.getD_eq_getElem?_getD, hrow]
      exact dpT_del hv (s5 _ _ hacc)
    · have z := map_range_getD rows [] fun r => dT (blacksOf c r)
      rw [el, z] at hxs
      have hd : Dp K H4 (.ref D) (dLT (rows.map (blacksOf c))) := .lst (.of eD) (by rw [List.map_map]; exact dpa_same same_del hxs)
      refine made' ?_ (rowsV_LT hd) hc (by omega) (by omega) (fun r hr => ?_) (by rw [List.length_map]; exact hlen) fun H' v' s' hs => q3 H' v' ((s1.trans s4).trans s') hs
      · have e := Int.fdiv_eq_ediv_of_nonneg (n : Int) (show (0 : Int) ≤ 2 by decide)
        first
          | omega
          | (rw [e]; omega)
      · obtain ⟨row, hrow, rfl⟩ := List.mem_map.mp hr
        exact blacks_ok hc (hok row hrow).1 n4 n2
  · exact ⟨_, rfl, x, rfl, .inr ⟨t, ty, kt, q⟩⟩
theorem ok_swing (B : Bi mg) (Gl : Gs mg) (c_need_clock : Cal P w K mg base (L2.CX P w) 3 "need_clock" ["value"] [] (sp_need_clock K Ck)) (c_need_sized : Cal P w K mg base (L2.CX P w) 5 "need_sized" ["value", "clock", "part", "least", "most", "step"] [] (sp_need_sized K Cr))
    (c_swing_in : Cal P w K mg base CX0 2 "swing_in" ["clock", "one", "other"] [] (sp_swing_in K)) (F : FnP K "swing" s_swing f fd) : FnOk P w K mg base CX0 6 f fd ["clock", "one", "other"] (sp_swing K) := by
  have nd := sc_swing.nd
  obtain ⟨t4, g_MOST_GAPS_rims⟩ := Gl.g4
  have r_MOST_GAPS_rims : RelV (.int 16) (Value.int 16 t4) := ⟨_, rfl⟩
  refine okN F sc_swing (fun vs H Q E h => by obtain ⟨c, n, x, y, a, b, rfl, _⟩ := h; rfl) (fun cdv A outer s H vs Q E hr h => ?_)
  have hr_need_sized := hr
  have hr_need_clock : Room 3 _ := hr.mono (by decide)
  have hr_swing_in : Room 2 _ := hr.mono (by decide)
  refine ⟨_, (pss_cons (ps_expr (e_call c_need_clock hr_need_clock passL (pa_cons (pv 0) pa_nil)))
      (pss_cons (ps_asg (e_call c_need_sized hr_need_sized passL (pa_cons (pv 1) (pa_cons (pv 0) (pa_cons pe_str (pa_cons pe_int (pa_cons (pe_glob rfl g_MOST_GAPS_rims r_MOST_GAPS_rims) (pa_cons pe_int pa_nil))))))) (pgn 3 nd))
      (pss_cons (ps_asg (e_call c_need_sized hr_need_sized passL (pa_cons (pv 2) (pa_cons (pv 0) (pa_cons pe_str (pa_cons pe_int (pa_cons (pe_glob rfl g_MOST_GAPS_rims r_MOST_GAPS_rims) (pa_cons pe_int pa_nil))))))) (pgn 4 nd))
      (pss_cons (ps_if (pt_cmpR op_ne (pe_callB (kLen K) rfl B.len bt_len (pa_cons (pv 4) pa_nil)) (pe_callB (kLen K) rfl B.len bt_len (pa_cons (pv 3) pa_nil)) (nomark _)) (pss_one ps_never) pss_nil)
      (pss_one (ps_ret (e_call c_swing_in hr_swing_in pass0 (pa_cons (pv 0) (pa_cons (pv 3) (pa_cons (pv 4) pa_nil)))))))))), ?_⟩
  obtain ⟨c, n, x, y, a, b, rfl, hc, hx, hy, oka, okb, n2, n16, ne, q⟩ := h
  have ck := clock_in hc
  have sized : ∀ {r : List Int}, RowOk c n r → sizedB c 2 16 (some (r.map V.int)) = true := fun {r} ok => by
    show (decide ((2 : Int) ≤ (r.map V.int).length ∧ ((r.map V.int).length : Int) < 16 + 1 ∧ (((r.map V.int).length : Int) - 2) % 2 = 0) && (r.map V.int).all (within 0 (c - 1))) = true
    rw [List.length_map, ok.1, ints_within ok.2, decide_eq_true (by omega)]
    rfl
  refine ⟨_, rfl, .int c, rfl, tyI_int K H c, fun _ => ?_, fun z => by rw [ck] at z; cases z⟩
  refine ⟨_, rfl, _, rfl, x, c, "one", 2, 16, some (a.map V.int), rfl, by omega, rowV_seq hx, ints_ty (by rw [oka.1]; omega), fun _ H1 v1 ns s1 e1 hb1 hv1 => ?_, fun z => by rw [sized oka] at z; cases z⟩
  cases map_int_inj (Option.some.inj e1)
  refine ⟨_, rfl, _, rfl, y, c, "other", 2, 16, some (b.map V.int), rfl, by omega, (rowV_seq hy).same s1, ints_ty (by rw [okb.1]; omega), fun _ H2 v2 ns s2 e2 hb2 hv2 => ?_, fun z => by rw [sized okb] at z; cases z⟩
  cases map_int_inj (Option.some.inj e2)
  obtain ⟨a1, rfl, ha1⟩ := dp_T' (dp_same s2 hv1)
  obtain ⟨a2, rfl, ha2⟩ := dp_T' hv2
  refine ⟨_, rfl, a2, _, rfl, .inr ha2, _, rfl, a1, _, rfl, .inr ha1, rfl, _, rfl, ?_⟩
  have el : (!decide (V.int ((b.map V.int).length : Nat) = V.int ((a.map V.int).length : Nat))) = false := by
    rw [List.length_map, List.length_map, oka.1, okb.1]
    simp
  rw [el]
  exact iteF ⟨_, rfl, _, rfl, _, rfl, c, _, _, a, b, rfl, dp_T ha1, dp_T ha2, hc, by rw [oka.1]; omega, by rw [oka.1]; omega, okb.2, fun H3 s3 => q H3 ((s1.trans s2).trans s3)⟩
end
end K61

set_option Elab.async false
set_option linter.all false
set_option maxRecDepth 100000
set_option maxHeartbeats 4000000
/-! The walks: the law's own small defs: the board, whites, blacks, one row less another. -/
namespace K61
open PySem PySem.Spec PyProof.Rows L2
/-! ### plain data that == may ask -/
theorem dat_ints : ∀ ns : List Int, PyData.canLayAll0 (ns.map PyData.int) = true ∧ PyData.depthAll (ns.map PyData.int) = 0
  | [] => ⟨rfl, rfl⟩
  | n :: r => by
    obtain ⟨a, b⟩ := dat_ints r
    refine ⟨?_, ?_⟩
    · show (PyData.canLay0 (.int n) && PyData.canLayAll0 (r.map PyData.int)) = true
      rw [a]
      rfl
    · show max (PyData.depth (.int n)) (PyData.depthAll (r.map PyData.int)) = 0
      rw [b]
      rfl
theorem dat_row (b : Bool) (ns : List Int) : PyData.canLay0 (if b then dL ns else dT ns) = true ∧ PyData.depth (if b then dL ns else dT ns) = 1 := by
  obtain ⟨h1, h2⟩ := dat_ints ns
  cases b with
  | true =>
    refine ⟨h1, ?_⟩
    show PyData.depthAll (ns.map PyData.int) + 1 = 1
    rw [h2]
  | false =>
    refine ⟨h1, ?_⟩
    show PyData.depthAll (ns.map PyData.int) + 1 = 1
    rw [h2]
theorem shaped_L (ns : List Int) : SeqAt.shaped (dL ns) = true := by
  obtain ⟨h1, h2⟩ := dat_row true ns
  have h1 : PyData.canLay0 (dL ns) = true := h1
  have h2 : PyData.depth (dL ns) = 1 := h2
  unfold SeqAt.shaped
  rw [h1, h2]
  rfl
/-- a list or tuple of rows, as data -/
theorem rows_dat {K : PySem.W.Frag} {H : Hp} : ∀ {vs : List V} {rs : List (List Int)}, Paired (RowV K H) vs rs → ∃ ds : List PyData, DpAll K H vs ds ∧ PyData.canLayAll0 ds = true ∧ PyData.depthAll ds ≤ 1
  | _, _, .nil => ⟨[], .nil, rfl, by decide⟩
  | _, _, .cons (b := r) h t => by
    obtain ⟨ds, h1, h2, h3⟩ := rows_dat t
    obtain ⟨a, rfl, h⟩ := h
    rcases h with h | h
    · obtain ⟨k1, k2⟩ := dat_row true r
      refine ⟨dL r :: ds, .cons (dp_L h) h1, ?_, ?_⟩
      · show (PyData.canLay0 (dL r) && PyData.canLayAll0 ds) = true
        rw [h2, show PyData.canLay0 (dL r) = true from k1]
        rfl
      · show max (PyData.depth (dL r)) (PyData.depthAll ds) ≤ 1
        rw [show PyData.depth (dL r) = 1 from k2]
        omega
    · obtain ⟨k1, k2⟩ := dat_row false r
      refine ⟨dT r :: ds, .cons (dp_T h) h1, ?_, ?_⟩
      · show (PyData.canLay0 (dT r) && PyData.canLayAll0 ds) = true
        rw [h2, show PyData.canLay0 (dT r) = true from k1]
        rfl
      · show max (PyData.depth (dT r)) (PyData.depthAll ds) ≤ 1
        rw [show PyData.depth (dT r) = 1 from k2]
        omega
theorem shaped_lst {ds : List PyData} (h1 : PyData.canLayAll0 ds = true) (h2 : PyData.depthAll ds ≤ 1) : SeqAt.shaped (.list ds) = true := by
  unfold SeqAt.shaped
  rw [show PyData.canLay0 (.list ds) = PyData.canLayAll0 ds from rfl, h1, show PyData.depth (.list ds) = PyData.depthAll ds + 1 from rfl]
  exact decide_eq_true (by omega)
theorem eqv_nil : ∀ ds : List PyData, PyData.eqv (.list ds) (.list []) = ds.isEmpty
  | [] => rfl
  | _ :: _ => rfl
theorem shaped_nil : SeqAt.shaped (.list []) = true := by decide
/-! ### the board -/
/-- the board at B: its numbers, the turn (n more turns are within the bound), what is left of a great number -/
def Board (K : PySem.W.Frag) (H : Hp) (B A : Addr) (n : Nat) : Prop := ∃ (cells : List Int) (t l : Int), H B = some (.lst [.ref A, .int t, .int l]) ∧ SqL K (del H B) A (cells.map V.int) ∧ cells.length ≤ 1000 ∧ 0 ≤ t ∧ t + n ≤ 1000000
theorem Board.le {K : PySem.W.Frag} {H : Hp} {B A : Addr} {m n : Nat} (h : Board K H B A m) (l : n ≤ m) : Board K H B A n := by
  obtain ⟨cells, t, r, h1, h2, h3, h4, h5⟩ := h
  exact ⟨cells, t, r, h1, h2, h3, h4, by omega⟩
theorem Board.same {K : PySem.W.Frag} {H H' : Hp} {B A : Addr} {n : Nat} (s : Same H H') (h : Board K H B A n) : Board K H' B A n := by
  obtain ⟨cells, t, r, h1, h2, h3, h4, h5⟩ := h
  exact ⟨cells, t, r, s _ _ h1, (same_dels s B).seq h2, h3, h4, h5⟩
/-- all but the board stands as before -/
abbrev SameB (B : Addr) (H H' : Hp) : Prop := Same (del H B) (del H' B)
theorem SameB.of {B : Addr} {H H' : Hp} (s : Same H H') : SameB B H H' := same_dels s B
theorem sameB_upd {B : Addr} {H : Hp} {o : HO} : SameB B H (upd H B o) := by
  unfold SameB
  rw [del_upd]
  exact Same.refl _
abbrev s_Lchessboard : Stmt := top 65
abbrev N_Lchessboard : List Str := ["_law_script", "_law_cell"]
theorem sc_Lchessboard : FnScope N_Lchessboard ["_law_script"] (defScope s_Lchessboard) := ⟨rfl, rfl, rfl, by decide +kernel, rfl, by decide +kernel, by decide +kernel⟩
abbrev s_Lsquare : Stmt := top 66
abbrev N_Lsquare : List Str := ["_law_chessboard_here", "_law_many", "_law_left", "_law_turn", "_law_cell", "_law_mixed"]
theorem sc_Lsquare : FnScope N_Lsquare ["_law_chessboard_here", "_law_many"] (defScope s_Lsquare) := ⟨rfl, rfl, rfl, by decide +kernel, rfl, by decide +kernel, by decide +kernel⟩
abbrev s_Lpick : Stmt := top 67
abbrev N_Lpick : List Str := ["_law_chessboard_here", "_law_some"]
theorem sc_Lpick : FnScope N_Lpick ["_law_chessboard_here", "_law_some"] (defScope s_Lpick) := ⟨rfl, rfl, rfl, by decide +kernel, rfl, by decide +kernel, by decide +kernel⟩
abbrev s_Lless : Stmt := top 68
abbrev N_Lless : List Str := ["_law_clock", "_law_row", "_law_lead", "_law_place", "_law_many", "_law_number", "_law_less_here"]
theorem sc_Lless : FnScope N_Lless ["_law_clock", "_law_row", "_law_lead", "_law_place"] (defScope s_Lless) := ⟨rfl, rfl, rfl, by decide +kernel, rfl, by decide +kernel, by decide +kernel⟩
abbrev s_Lwhites : Stmt := top 73
abbrev N_Lwhites : List Str := ["_law_clock", "_law_row", "_law_at"]
theorem sc_Lwhites : FnScope N_Lwhites ["_law_clock", "_law_row"] (defScope s_Lwhites) := ⟨rfl, rfl, rfl, by decide +kernel, rfl, by decide +kernel, by decide +kernel⟩
abbrev s_Lblacks : Stmt := top 74
abbrev N_Lblacks : List Str := ["_law_clock", "_law_row", "_law_at"]
theorem sc_Lblacks : FnScope N_Lblacks ["_law_clock", "_law_row"] (defScope s_Lblacks) := ⟨rfl, rfl, rfl, by decide +kernel, rfl, by decide +kernel, by decide +kernel⟩
def sp_chessboard (K : PySem.W.Frag) : Sp := fun vs H Q _ => ∃ (a : Addr) (ns : List Int), vs = [.ref a] ∧ SqL K H a (ns.map V.int) ∧ ∀ H' B A, Same H H' → H B = none → Board K H' B A 1000000 → Q (.ref B) H'
def sp_square (K : PySem.W.Frag) : Sp := fun vs H Q _ => ∃ (B A : Addr) (n : Nat) (m : Int), vs = [.ref B, .int m] ∧ Board K H B A (n + 1) ∧ 0 < m ∧ m < 1073741824 ∧ ∀ (H' : Hp) (v : Int), SameB B H H' → Board K H' B A n → 0 ≤ v → v < m → Q (.int v) H'
def sp_pick (K : PySem.W.Frag) : Sp := fun vs H Q _ => ∃ (B A S : Addr) (n : Nat) (xs : List V), vs = [.ref B, .ref S] ∧ Board K H B A (n + 1) ∧ SqL K (del H B) S xs ∧ 0 < xs.length ∧ xs.length < 1000 ∧ ∀ (H' : Hp) (i : Nat) (x : V), SameB B H H' → Board K H' B A n → xs[i]? = some x → Q x H'
def sp_less (K : PySem.W.Frag) : Sp := fun vs H Q _ => ∃ (c : Int) (n : Nat) (a : Addr) (r : List Int) (b : Addr) (t : List Int) (i : Nat), vs = [.int c, .ref a, .ref b, .int i] ∧ SqL K H a (r.map V.int) ∧ SqL K H b (t.map V.int) ∧ Clock c ∧ RowOk c n r ∧ t.length = n ∧ i < n ∧ n ≤ sizeLine ∧
  ∀ (H' : Hp) (p : Addr), Same H H' → H p = none → H' p = some (.lst ((clr c r t i).map V.int)) → Q (.ref p) H'
/-- the law's whites, blacks of a row -/
def sp_Lrowf (K : PySem.W.Frag) (f : Int → List Int → List Int) : Sp := fun vs H Q _ => ∃ (c : Int) (a : Addr) (r : List Int), vs = [.int c, .ref a] ∧ SqL K H a (r.map V.int) ∧ Clock c ∧ 4 ≤ r.length ∧ r.length ≤ 1000 ∧ r.length % 2 = 0 ∧ ∀ (H' : Hp) (v : V), Same H H' → Dp K H' v (dT (f c r)) → Q v H'
theorem clr_all {c : Int} {n : Nat} {r t : List Int} {i : Nat} (hc : Clock c) (hr : RowOk c n r) (ht : t.length = n) : clr c r t i = List.zipWith (fun e l => (e - r.getD i 0 * l) % c) r t := by
  rw [clr_eq]
  split
  · rename_i h
    rw [h]
    apply List.ext_getElem?
    intro j
    rw [List.getElem?_zipWith]
    by_cases hj : j < n
    · rw [List.getElem?_eq_getElem (by rw [hr.1]; exact hj), List.getElem?_eq_getElem (by rw [ht]; exact hj)]
      obtain ⟨x0, x1⟩ := hr.2 _ (List.getElem_mem (by rw [hr.1]; exact hj : j < r.length))
      show some _ = some ((r[j]'_ - 0 * _) % c)
      rw [Int.zero_mul, Int.sub_zero, emod_low x0 x1]
    · rw [List.getElem?_eq_none (by rw [hr.1]; omega), List.getElem?_eq_none (by rw [ht]; omega)]
  · rfl
theorem some_getD {r : List Int} {j : Nat} (h : j < r.length) : r[j]? = some (r.getD j 0) := by
  rw [List.getD_eq_getElem?_getD, List.getElem?_eq_getElem h]
  rfl
theorem ints_cut (ns : List Int) (lo hi : Option Int) : ∃ ms : List Int, cutV (ns.map V.int) lo hi = ms.map V.int ∧ ms.length ≤ ns.length := by
  refine ⟨(ns.drop (HT.sIx (ns.map V.int).length 0 lo)).take (HT.sIx (ns.map V.int).length (ns.map V.int).length hi - HT.sIx (ns.map V.int).length 0 lo), ?_, ?_⟩
  · unfold cutV
    rw [← List.map_drop, ← List.map_take]
  · rw [List.length_take, List.length_drop]
    omega
/-- what stands behind a statement, shown once for all its ways -/
theorem seq_post {t k : TS} {D : Ends} {σ : L2.St} {H : Hp} (Pst : L2.St → Hp → Prop) (rest : ∀ σ' H', Pst σ' H' → k D σ' H') (main : (∀ σ' H', Pst σ' H' → k D σ' H') → tSeq t k D σ H) : tSeq t k D σ H := main rest
section
variable {P : Program} {w : World} {K : PySem.W.Frag} {mg : Str → Option Value} {base : Heap} {f : Addr} {fd : FuncData}
theorem ok_chessboard (B : Bi mg) (F : FnP K "_law_chessboard" s_Lchessboard f fd) : FnOk P w K mg base CX0 1 f fd ["_law_script"] (sp_chessboard K) := by
  have nd := sc_Lchessboard.nd
  refine okN F sc_Lchessboard (fun vs H Q E h => by obtain ⟨a, ns, rfl, _⟩ := h; rfl) (fun cdv A outer s H vs Q E hr h => ⟨_, (pss_one (ps_ret (pe_lst (pa_cons (pe_lc (own := [("_law_cell", 1)]) rfl nd (pi_list (pe_slice (kSlL K) (pv 0) po_none (po_some pe_int))) (blkOk_by (N := N_Lchessboard) (sc := (defScope s_Lchessboard)) (by decide +kernel)) (fun _ _ _ _ _ => by exact (pgn 1 nd)) (fun _ _ _ _ _ => by exact pts_nil) (fun _ _ _ _ _ => by exact (pe_callTy call_int1 rfl B.int bt_int (pa_cons (pv 1) pa_nil)))) (pa_cons pe_int (pa_cons pe_int pa_nil)))))), ?_⟩)
  obtain ⟨a, ns, rfl, ha, q⟩ := h
  refine ⟨_, rfl, 60, rfl, a, _, rfl, ha, fun p hp => ?_⟩
  have s1 : Same H (upd H p (.lst (cutV (ns.map V.int) none (some 60)))) := same_upd hp
  have cl : (cutV (ns.map V.int) none (some 60)).length ≤ 60 := by
    unfold cutV
    rw [List.length_take]
    have z : HT.sIx (ns.map V.int).length (ns.map V.int).length (some 60) ≤ 60 := by
      rw [show (60 : Int) = ((60 : Nat) : Int) from rfl, HT.sIx_nat]
      omega
    omega
  obtain ⟨ms, em, lm⟩ := ints_cut ns none (some 60)
  rw [em] at s1 cl ⊢
  rw [List.length_map] at cl
  refine ⟨p, rfl, ⟨_, .of upd_same⟩, fun D hD => ?_⟩
  refine lc_val (walk_list (xs := ms.map V.int)) (fun i => .int (ms.getD i 0)) hD (by rw [List.length_map]; exact Nat.le_trans cl (by decide)) (fun H' z => z.seq (.of upd_same)) (fun i x H1 H2 N hi s2 _ y k => ?_) (fun H2 s2 e => ?_)
  · obtain ⟨rfl, hx⟩ := y
    obtain ⟨m, hm, rfl⟩ := int_get hx
    have z := k H2 (Same.refl _)
    rw [getD_of hm] at z
    exact ⟨rfl, _, rfl, .inl ⟨m, rfl, z⟩⟩
  · refine ⟨(by show 3 ≤ sizeLine; decide), fun R hR => q _ R D ((s1.trans s2).trans (same_upd hR)) (Same.free (s1.trans s2) hR) ⟨ms, 0, 0, upd_same, ?_, by omega, by omega, by omega⟩⟩
    have z := map_range_getD ms 0 fun x => V.int x
    rw [List.length_map, z] at e
    rw [del_upd]
    exact .of (by rw [del_ne (ne_of_none e hR)]; exact e)
theorem ok_square (B : Bi mg) (F : FnP K "_law_square" s_Lsquare f fd) : FnOk P w K mg base CX0 1 f fd ["_law_chessboard_here", "_law_many"] (sp_square K) := by
  have nd := sc_Lsquare.nd
  refine okN F sc_Lsquare (fun vs H Q E h => by obtain ⟨B, A, n, m, rfl, _⟩ := h; rfl) (fun cdv A outer s H vs Q E hr h => ⟨_, (pss_cons (ps_if (pt_cmpR op_gt (pe_ix (kIxL K) (pv 0) pe_int (fun _ _ => rfl)) pe_int (nomark _)) (pss_cons (ps_asg (pe_callTy call_int1 rfl B.int bt_int (pa_cons (pe_ix (kIxL K) (pv 0) pe_int (fun _ _ => rfl)) pa_nil)) (pgn 2 nd))
      (pss_cons (ps_asg (pe_op op_fdiv (pv 2) (pv 1)) (pg_sub (pv 0) pe_int set_list))
      (pss_one (ps_ret (pe_op op_mod (pe_callTy call_int1 rfl B.int bt_int (pa_cons (pv 2) pa_nil)) (pv 1)))))) pss_nil)
      (pss_cons (ps_asg (pe_ix (kIxL K) (pv 0) pe_int (fun _ _ => rfl)) (pgn 3 nd))
      (pss_cons (ps_asg (pe_op op_add (pv 3) pe_int) (pg_sub (pv 0) pe_int set_list))
      (pss_cons (ps_asg (pe_op op_add (pe_op op_mul pe_int (pv 3)) pe_int) (pgn 4 nd))
      (pss_cons (ps_if (pt_cmpR (op_neD hr.units) (pe_ix (kIxL K) (pv 0) pe_int (fun _ _ => rfl)) (pe_lst pa_nil) (nomark _)) (pss_one (ps_asg (pe_ix (kIxL K) (pe_ix (kIxL K) (pv 0) pe_int (fun _ _ => rfl)) (pe_op op_mod (pe_callTy call_int1 rfl B.int bt_int (pa_cons (pv 3) pa_nil)) (pe_callB (kLen K) rfl B.len bt_len (pa_cons (pe_ix (kIxL K) (pv 0) pe_int (fun _ _ => rfl)) pa_nil))) (fun _ _ => rfl)) (pgn 4 nd))) pss_nil)
      (pss_cons (ps_if (PW.pt (pw_and (pt_cmpR op_lt (pv 3) (pe_callB (kLen K) rfl B.len bt_len (pa_cons (pe_ix (kIxL K) (pv 0) pe_int (fun _ _ => rfl)) pa_nil)) (nomark _)) (pw_and1 (pt_cmpR op_ge (pe_callB call_abs rfl B.abs bt_abs (pa_cons (pv 4) pa_nil)) (pe_op op_pow pe_int pe_int) (nomark _))))) (pss_cons (ps_asg (pe_op op_add (pe_op op_mul pe_int (pe_op op_sub (pe_callB call_abs rfl B.abs bt_abs (pa_cons (pe_callTy call_int1 rfl B.int bt_int (pa_cons (pv 4) pa_nil)) pa_nil)) (pe_op op_pow pe_int pe_int))) (pe_callTy call_int1 rfl B.int bt_int (pa_cons (pe_cmpR op_lt (pv 4) pe_int (nomark _)) pa_nil))) (pgn 2 nd))
      (pss_cons (ps_asg (pe_op op_fdiv (pv 2) (pv 1)) (pg_sub (pv 0) pe_int set_list))
      (pss_one (ps_ret (pe_op op_mod (pe_callTy call_int1 rfl B.int bt_int (pa_cons (pv 2) pa_nil)) (pv 1)))))) pss_nil)
      (pss_cons (ps_asg (pe_op op_mod (pe_callTy call_int1 rfl B.int bt_int (pa_cons (pe_op op_pow (pe_op op_add (pe_op op_add (pe_op op_mod (pe_callTy call_int1 rfl B.int bt_int (pa_cons (pv 4) pa_nil)) pe_int) (pe_op op_mul pe_int (pv 3))) pe_int) pe_int) pa_nil)) pe_int) (pgn 5 nd))
      (pss_cons (ps_asg (pe_op op_mod (pe_callTy call_int1 rfl B.int bt_int (pa_cons (pe_op op_pow (pe_op op_add (pe_op op_add (pe_op op_mul (pv 5) (pe_op op_add (pe_op op_mul pe_int (pv 3)) pe_int)) (pe_op op_mul (pe_op op_mul pe_int (pv 3)) (pv 3))) pe_int) pe_int) pa_nil)) pe_int) (pgn 5 nd))
      (pss_one (ps_ret (pe_op op_mod (pe_callTy call_int1 rfl B.int bt_int (pa_cons (pe_op op_fdiv (pv 5) pe_int) pa_nil)) (pv 1)))))))))))), ?_⟩)
  obtain ⟨B, A, n, m, rfl, ⟨cells, t, l, eB, eA, cl, t0, tn⟩, m0, m1, q⟩ := h
  have at2 : ∀ (x : V), atI [.ref A, .int t, x] 2 = some x := fun x => rfl
  have md : ∀ x : Int, 0 ≤ x % m ∧ x % m < m := fun x => ⟨Int.emod_nonneg _ (by omega), Int.emod_lt_of_pos _ m0⟩
  refine ⟨_, rfl, B, _, 2, .int l, rfl, rfl, .of eB, rfl, _, _, rfl, rfl, _, rfl, ?_⟩
  by_cases hl : 0 < l
  · rw [decide_eq_true hl]
    refine iteT ⟨_, rfl, B, _, 2, .int l, rfl, rfl, .of eB, rfl, .inl ⟨l, rfl, ?_⟩⟩
    refine ⟨_, rfl, _, rfl, l, m, rfl, rfl, ⟨m0, m1⟩, _, rfl, B, _, 2, 2, rfl, rfl, eB, rfl, ?_⟩
    refine ⟨_, rfl, .inl ⟨l, rfl, _, rfl, l, m, rfl, rfl, m0, ?_⟩⟩
    refine q _ _ sameB_upd ⟨cells, t, l / m, upd_same, ?_, cl, t0, by omega⟩ (md l).1 (md l).2
    rw [del_upd]
    exact eA
  · rw [decide_eq_false hl]
    refine iteF ⟨_, rfl, B, _, 1, .int t, rfl, rfl, .of eB, rfl, ?_⟩
    refine ⟨_, rfl, t, 1, rfl, rfl, _, rfl, B, _, 1, 1, rfl, rfl, eB, rfl, ?_⟩
    generalize hH1 : upd H B (.lst (List.set [.ref A, .int t, .int l] 1 (.int (t + 1)))) = H1
    have eB1 : H1 B = some (.lst [.ref A, .int (t + 1), .int l]) := by rw [← hH1]; exact upd_same
    have s1 : SameB B H H1 := by rw [← hH1]; exact sameB_upd
    have eA1 : SqL K (del H1 B) A (cells.map V.int) := s1.seq eA
    have eA1' : SqL K H1 A (cells.map V.int) := same_del.seq eA1
    refine ⟨_, rfl, 80233, t, rfl, rfl, .inl ⟨by omega, by omega⟩, _, _, rfl, rfl, ?_⟩
    have eA1'' : SqL K (del H1 B) A (cells.map V.int) := eA1
    dsimp only [gName]
    refine seq_post (fun σ' H2 => SameB B H1 H2 ∧ H2 B = some (.lst [.ref A, .int (t + 1), .int l]) ∧ SqL K (del H2 B) A (cells.map V.int) ∧ ∃ cell x5, σ' = [some (.ref B), some (.int m), none, some (.int t), some (.int cell), x5]) (fun σ' H2 ⟨s2, eB2, eA2, cell, x5, eσ⟩ => ?_) (fun rest => ?_)
    · subst eσ
      have eA2' : SqL K H2 A (cells.map V.int) := same_del.seq eA2

      refine seq_post (fun σ' H3 => H3 = H2 ∧ σ' = [some (.ref B), some (.int m), none, some (.int t), some (.int cell), x5]) (fun σ' H3 ⟨e1, e2⟩ => ?_) (fun rest => ?_)
      · subst e1 e2
        have a1 := Int.emod_nonneg cell (show (2147483563 : Int) ≠ 0 by decide)
        have a2 := Int.emod_lt_of_pos cell (show (0 : Int) < 2147483563 by decide)
        generalize hy : cell % 2147483563 = y at a1 a2
        refine ⟨_, rfl, .inl ⟨cell, rfl, _, _, rfl, rfl, (by show (0 : Int) < 2147483563; decide), _, rfl, 43291, t, rfl, rfl, .inl ⟨by decide, by decide⟩, _, _, rfl, rfl, _, _, rfl, rfl, _, 5, rfl, rfl, ⟨by decide, by decide, ?_⟩, .inl ⟨_, rfl, _, _, rfl, rfl, (by show (0 : Int) < 2147483549; decide), ?_⟩⟩⟩
        · show (cell % 2147483563 + 43291 * t + 7499).natAbs < 2 ^ 64
          rw [hy]
          omega
        generalize hz : (cell % 2147483563 + 43291 * t + 7499) ^ (5 : Int).toNat = z
        have b1 := Int.emod_nonneg z (show (2147483549 : Int) ≠ 0 by decide)
        have b2 := Int.emod_lt_of_pos z (show (0 : Int) < 2147483549 by decide)
        show gName 5 (.int (z % 2147483549)) _ H3 _
        generalize z % 2147483549 = u at b1 b2
        have pp : 0 ≤ u * (2 * t + 3121) := Int.mul_nonneg b1 (by omega)
        have pq : u * (2 * t + 3121) ≤ 2147483549 * 2003121 := Int.mul_le_mul (by omega) (by omega) (by omega) (by omega)
        have tt : 0 ≤ 80233 * t * t := Int.mul_nonneg (by omega) t0
        have tu : 80233 * t * t ≤ 80233000000 * 1000000 := Int.mul_le_mul (by omega) (by omega) t0 (by omega)
        refine ⟨_, rfl, _, rfl, 2, t, rfl, rfl, .inl ⟨by decide, by decide⟩, _, _, rfl, rfl, _, _, rfl, rfl, .inl ⟨by omega, by omega⟩, _, rfl, 80233, t, rfl, rfl, .inl ⟨by decide, by decide⟩, _, rfl, 80233 * t, t, rfl, rfl, .inl ⟨by omega, by omega⟩, _, _, rfl, rfl, _, _, rfl, rfl, _, 3, rfl, rfl, ⟨by decide, by decide, ?_⟩, .inl ⟨_, rfl, _, _, rfl, rfl, (by show (0 : Int) < 2147483563; decide), ?_⟩⟩
        · show (u * (2 * t + 3121) + 80233 * t * t + 43291).natAbs < 2 ^ 64
          omega
        refine ⟨_, rfl, _, 64, rfl, rfl, ⟨by decide, by decide⟩, .inl ⟨_, rfl, _, rfl, _, m, rfl, rfl, m0, ?_⟩⟩
        exact q _ _ (s1.trans s2) ⟨cells, t + 1, l, eB2, eA2, cl, by omega, by omega⟩ (md _).1 (md _).2
      · refine ⟨_, rfl, _, rfl, B, _, 0, _, rfl, rfl, .of eB2, rfl, A, _, rfl, .inl eA2', _, _, rfl, rfl, _, rfl, ?_⟩
        rw [List.length_map]
        by_cases h1 : t < (cells.length : Int)
        · rw [decide_eq_true h1]
          refine iteT ⟨_, rfl, cell, rfl, 10, 18, rfl, rfl, ⟨by decide, by decide, by decide⟩, _, _, rfl, rfl, _, rfl, ?_⟩
          by_cases h2 : (10 : Int) ^ (18 : Int).toNat ≤ (if cell < 0 then -cell else cell)
          · rw [decide_eq_true h2]
            refine iteT ⟨_, rfl, .inl ⟨cell, rfl, cell, rfl, 10, 18, rfl, rfl, ⟨by decide, by decide, by decide⟩, _, _, rfl, rfl, 2, _, rfl, rfl, .inl ⟨by decide, by decide⟩, _, rfl, _, _, rfl, rfl, .inr ⟨_, rfl, _, _, rfl, rfl, ?_⟩⟩⟩
            refine ⟨_, rfl, _, rfl, _, m, rfl, rfl, ⟨m0, m1⟩, _, rfl, B, _, 2, 2, rfl, rfl, eB2, rfl, ?_⟩
            refine ⟨_, rfl, .inl ⟨_, rfl, _, rfl, _, m, rfl, rfl, m0, ?_⟩⟩
            refine q _ _ ((s1.trans s2).trans sameB_upd) ⟨cells, t + 1, _, upd_same, ?_, cl, by omega, by omega⟩ (md _).1 (md _).2
            rw [del_upd]
            exact eA2
          · rw [decide_eq_false h2]
            exact iteF (rest _ _ ⟨rfl, rfl⟩)
        · rw [decide_eq_false h1]
          exact iteF (iteF (rest _ _ ⟨rfl, rfl⟩))
    · refine ⟨_, rfl, B, _, 0, _, rfl, rfl, .of eB1, rfl, (by show 0 ≤ sizeLine; decide), fun p hp => ?_⟩
      have s2 : Same H1 (upd H1 p (.lst [])) := same_upd hp
      have dA : Dp K (upd H1 p (.lst [])) (.ref A) (dL cells) := dp_same s2 (dp_L eA1')
      refine ⟨dL cells, .list [], dA, .lst (.of upd_same) .nil, shaped_L cells, shaped_nil, _, rfl, ?_⟩
      rw [eqv_nil]
      generalize upd H1 p (.lst []) = H2 at s2
      have eB2 := s2 _ _ eB1
      have eA2 := (same_dels s2 B).seq eA1
      cases cells with
      | nil => exact iteF (rest _ _ ⟨SameB.of s2, eB2, eA2, _, _, rfl⟩)
      | cons c0 cs =>
        refine iteT ⟨_, rfl, B, _, 0, _, rfl, rfl, .of eB2, rfl, _, rfl, .inl ⟨t, rfl, _, rfl, B, _, 0, _, rfl, rfl, .of eB2, rfl, A, _, rfl, .inl (s2.seq eA1'), _, _, rfl, rfl, ?_, A, _, _, .int ((c0 :: cs).getD (t % ((c0 :: cs).length : Int)).toNat 0), rfl, rfl, s2.seq eA1', ?_, ?_⟩⟩
        · show (0 : Int) < (((c0 :: cs).map V.int).length : Nat)
          rw [List.length_map, List.length_cons]
          omega
        · have l0 : (0 : Int) < ((c0 :: cs).length : Int) := by rw [List.length_cons]; omega
          have m1 := Int.emod_nonneg t (show ((c0 :: cs).length : Int) ≠ 0 by omega)
          have m2 := Int.emod_lt_of_pos t l0
          rw [List.length_map]
          generalize t % ((c0 :: cs).length : Int) = z at m1 m2
          obtain ⟨k, rfl⟩ : ∃ k : Nat, z = (k : Int) := ⟨z.toNat, by omega⟩
          exact atI_nat (map_int_get (c0 :: cs) (by omega))
        · exact rest _ _ ⟨SameB.of s2, eB2, eA2, _, _, rfl⟩
theorem ok_pick (Bu : Bi mg) (c__law_square : Cal P w K mg base CX0 1 "_law_square" ["_law_chessboard_here", "_law_many"] [] (sp_square K)) (F : FnP K "_law_pick" s_Lpick f fd) : FnOk P w K mg base CX0 2 f fd ["_law_chessboard_here", "_law_some"] (sp_pick K) := by
  have nd := sc_Lpick.nd
  have B := Bu
  refine okN F sc_Lpick (fun vs H Q E h => by obtain ⟨B, A, S, n, xs, rfl, _⟩ := h; rfl) (fun cdv A outer s H vs Q E hr h => ?_)
  have hr__law_square := hr
  refine ⟨_, (pss_one (ps_ret (pe_ix (kIxL K) (pv 1) (e_call c__law_square hr__law_square pass0 (pa_cons (pv 0) (pa_cons (pe_callB (kLen K) rfl B.len bt_len (pa_cons (pv 1) pa_nil)) pa_nil))) (fun _ _ => rfl)))), ?_⟩
  obtain ⟨B, A, S, n, xs, rfl, hb, hS, l0, l1, q⟩ := h
  refine ⟨_, rfl, _, rfl, _, rfl, S, xs, rfl, .inl (same_del.seq hS), B, A, n, _, rfl, hb, by omega, by omega, fun H' v s1 hb' v0 v1 => ?_⟩
  obtain ⟨k, rfl⟩ : ∃ k : Nat, v = (k : Int) := ⟨v.toNat, by omega⟩
  have hk : k < xs.length := by omega
  exact ⟨S, xs, _, xs[k], rfl, rfl, same_del.seq (s1.seq hS), atI_nat (by simp [hk]), q H' k xs[k] s1 hb' (by simp [hk])⟩
theorem ok_less (B : Bi mg) (F : FnP K "_law_less" s_Lless f fd) : FnOk P w K mg base CX0 1 f fd ["_law_clock", "_law_row", "_law_lead", "_law_place"] (sp_less K) := by
  have nd := sc_Lless.nd
  refine okN F sc_Lless (fun vs H Q E h => by obtain ⟨c, n, a, r, b, t, i, rfl, _⟩ := h; rfl) (fun cdv A outer s H vs Q E hr h => ⟨_, (pss_cons (ps_asg (pe_ix (kIxL K) (pv 1) (pv 3) (fun _ _ => rfl)) (pgn 4 nd))
      (pss_one (ps_ret (pe_lc (g := gTup K 2 (gCons (gName 5) (gCons (gName 6) gNil))) (own := [("_law_number", 5), ("_law_less_here", 6)]) rfl nd (pi_zip rfl B.zip (pa_cons (pv 1) (pa_cons (pv 2) pa_nil))) (blkOk_by (N := N_Lless) (sc := (defScope s_Lless)) (by decide +kernel)) (fun _ _ _ _ _ => by exact (pg_tup rfl (pgs_cons (pgn 5 nd) (pgs_cons (pgn 6 nd) pgs_nil)))) (fun _ _ _ _ _ => by exact pts_nil) (fun _ _ _ _ _ => by exact (pe_op op_mod (pe_callTy call_int1 rfl B.int bt_int (pa_cons (pe_op op_sub (pv 5) (pe_op op_mul (pv 4) (pv 6))) pa_nil)) (pv 0))))))), ?_⟩)
  obtain ⟨c, n, a, r, b, t, i, rfl, ha, hb, hc, hrow, ht, hi, hn, q⟩ := h
  have c0 := hc.pos
  have c1 := hc.le
  obtain ⟨b1, b2⟩ := getD_row c0 hrow i
  refine ⟨_, rfl, _, rfl, a, _, _, _, rfl, rfl, ha, atI_nat (map_int_get r (by rw [hrow.1]; exact hi)), ?_⟩
  refine ⟨_, rfl, _, rfl, a, b, _, _, rfl, ha, hb, fun D hD => ?_⟩
  refine lc_val (walk_zip rfl) (fun j => .int ((r.getD j 0 - r.getD i 0 * t.getD j 0) % c)) hD (by simp; omega) (fun H' z => ⟨z.seq ha, z.seq hb⟩) (fun j x H1 H2 N hj s2 _ y k => ?_) (fun H' s2 e4 => ?_)
  · obtain ⟨T, u, v, rfl, hT, rfl, e1, e2⟩ := y
    obtain ⟨x1, hx1, rfl⟩ := int_get e1
    obtain ⟨x2, hx2, rfl⟩ := int_get e2
    have z := k _ (same_upd (o := .tup [.int x1, .int x2]) hT)
    rw [getD_of hx1, getD_of hx2] at z
    exact ⟨T, _, rfl, .of upd_same, rfl, _, _, rfl, _, _, rfl, rfl, rfl, _, rfl, _, rfl, _, rfl, _, x2, rfl, rfl, .inl ⟨by omega, by omega⟩, _, _, rfl, rfl, .inl ⟨_, rfl, _, rfl, _, _, rfl, rfl, c0, z⟩⟩
  · refine q _ D s2 hD ?_
    rw [e4, clr_all hc hrow ht]
    have z := zip_range_getD r t fun x y => V.int ((x - r.getD i 0 * y) % c)
    rw [List.length_map, List.length_map, z, List.map_zipWith]
theorem ok_Lwhites (B : Bi mg) (F : FnP K "_law_whites" s_Lwhites f fd) : FnOk P w K mg base CX0 1 f fd ["_law_clock", "_law_row"] (sp_Lrowf K whitesOf) := by
  have nd := sc_Lwhites.nd
  refine okN F sc_Lwhites (fun vs H Q E h => by obtain ⟨c, a, r, rfl, _⟩ := h; rfl) (fun cdv A outer s H vs Q E hr h => ⟨_, (pss_one (ps_ret (pe_callTy (kTup K) rfl B.tuple bt_tuple (pa_cons (pe_lc (own := [("_law_at", 2)]) rfl nd (pi_range2 rfl B.range (pa_cons pe_int (pa_cons (pe_op op_fdiv (pe_callB (kLen K) rfl B.len bt_len (pa_cons (pv 1) pa_nil)) pe_int) pa_nil))) (blkOk_by (N := N_Lwhites) (sc := (defScope s_Lwhites)) (by decide +kernel)) (fun _ _ _ _ _ => by exact (pgn 2 nd)) (fun _ _ _ _ _ => by exact pts_nil) (fun _ _ _ _ _ => by exact (pe_op op_mod (pe_callTy call_int1 rfl B.int bt_int (pa_cons (pe_op op_sub (pe_ix (kIxL K) (pv 1) (pe_op op_mul pe_int (pv 2)) (fun _ _ => rfl)) (pe_ix (kIxL K) (pv 1) pe_int (fun _ _ => rfl))) pa_nil)) (pv 0)))) pa_nil)))), ?_⟩)
  obtain ⟨c, a, r, rfl, ha, hc, h4, hl, he, q⟩ := h
  have c0 := hc.pos
  refine ⟨_, rfl, a, _, rfl, .inl ha, _, _, rfl, rfl, ⟨by decide, by decide⟩, ?_⟩
  rw [List.length_map]
  refine ⟨1, (r.length : Int) / 2, rfl, by omega, fun D hD => ?_⟩
  have tn : ((r.length : Int) / 2 - 1).toNat = r.length / 2 - 1 := by omega
  rw [tn]
  refine lc_val (walk_range (lo := 1) (n := r.length / 2 - 1)) (fun k => .int ((r.getD (2 * (k + 1)) 0 - r.getD 0 0) % c)) hD (Nat.le_trans (by omega) (by decide : 1000 ≤ sizeLine)) (fun _ _ => trivial) (fun i x H1 H2 N hi s2 _ y k => ?_) (fun H' s2 e => ?_)
  · obtain ⟨rfl, rfl⟩ := y
    have ha2 := s2.seq ha
    have e1 : (2 : Int) * (1 + (i : Int)) = ((2 * (i + 1) : Nat) : Int) := by omega
    refine ⟨rfl, _, rfl, _, rfl, 2, 1 + (i : Int), rfl, rfl, .inl ⟨by decide, by decide⟩, a, _, _, .int (r.getD (2 * (i + 1)) 0), rfl, rfl, ha2, ?_, _, rfl, a, _, 0, _, rfl, rfl, ha2, atI_nat (j := 0) (map_int_get r (i := 0) (by omega)), _, _, rfl, rfl, .inl ⟨_, rfl, _, rfl, _, _, rfl, rfl, c0, k H2 (Same.refl _)⟩⟩
    rw [e1]
    exact atI_nat (map_int_get r (by omega))
  · refine ⟨D, _, rfl, .inl ⟨.of e, fun p hp => q _ _ (s2.trans (same_upd hp)) (dp_T (.of ?_))⟩⟩
    rw [upd_same]
    refine congrArg (fun l => some (HO.tup l)) ?_
    apply List.ext_getElem?
    intro k
    rw [List.getElem?_map, List.getElem?_map]
    by_cases hk : k < r.length / 2 - 1
    · rw [List.getElem?_range hk]
      unfold whitesOf
      rw [List.getElem?_map, evens_get, List.getElem?_drop, show 2 + 2 * k = 2 * (k + 1) by omega, some_getD (show 2 * (k + 1) < r.length by omega)]
      rfl
    · rw [List.getElem?_eq_none (by rw [List.length_range]; omega), List.getElem?_eq_none (by rw [whites_len]; omega)]
      rfl
theorem ok_Lblacks (B : Bi mg) (F : FnP K "_law_blacks" s_Lblacks f fd) : FnOk P w K mg base CX0 1 f fd ["_law_clock", "_law_row"] (sp_Lrowf K blacksOf) := by
  have nd := sc_Lblacks.nd
  refine okN F sc_Lblacks (fun vs H Q E h => by obtain ⟨c, a, r, rfl, _⟩ := h; rfl) (fun cdv A outer s H vs Q E hr h => ⟨_, (pss_one (ps_ret (pe_callTy (kTup K) rfl B.tuple bt_tuple (pa_cons (pe_lc (own := [("_law_at", 2)]) rfl nd (pi_range2 rfl B.range (pa_cons pe_int (pa_cons (pe_op op_fdiv (pe_callB (kLen K) rfl B.len bt_len (pa_cons (pv 1) pa_nil)) pe_int) pa_nil))) (blkOk_by (N := N_Lblacks) (sc := (defScope s_Lblacks)) (by decide +kernel)) (fun _ _ _ _ _ => by exact (pgn 2 nd)) (fun _ _ _ _ _ => by exact pts_nil) (fun _ _ _ _ _ => by exact (pe_op op_mod (pe_callTy call_int1 rfl B.int bt_int (pa_cons (pe_op op_sub (pe_ix (kIxL K) (pv 1) (pe_op op_add (pe_op op_mul pe_int (pv 2)) pe_int) (fun _ _ => rfl)) (pe_ix (kIxL K) (pv 1) (pe_op op_sub (pe_op op_mul pe_int (pv 2)) pe_int) (fun _ _ => rfl))) pa_nil)) (pv 0)))) pa_nil)))), ?_⟩)
  obtain ⟨c, a, r, rfl, ha, hc, h4, hl, he, q⟩ := h
  have c0 := hc.pos
  refine ⟨_, rfl, a, _, rfl, .inl ha, _, _, rfl, rfl, ⟨by decide, by decide⟩, ?_⟩
  rw [List.length_map]
  refine ⟨1, (r.length : Int) / 2, rfl, by omega, fun D hD => ?_⟩
  have tn : ((r.length : Int) / 2 - 1).toNat = r.length / 2 - 1 := by omega
  rw [tn]
  refine lc_val (walk_range (lo := 1) (n := r.length / 2 - 1)) (fun k => .int ((r.getD (3 + 2 * k) 0 - r.getD (1 + 2 * k) 0) % c)) hD (Nat.le_trans (by omega) (by decide : 1000 ≤ sizeLine)) (fun _ _ => trivial) (fun i x H1 H2 N hi s2 _ y k => ?_) (fun H' s2 e => ?_)
  · obtain ⟨rfl, rfl⟩ := y
    have ha2 := s2.seq ha
    have e1 : (2 : Int) * (1 + (i : Int)) + 1 = ((3 + 2 * i : Nat) : Int) := by omega
    have e2 : (2 : Int) * (1 + (i : Int)) - 1 = ((1 + 2 * i : Nat) : Int) := by omega
    refine ⟨rfl, _, rfl, _, rfl, 2, 1 + (i : Int), rfl, rfl, .inl ⟨by decide, by decide⟩, _, _, rfl, rfl, a, _, _, .int (r.getD (3 + 2 * i) 0), rfl, rfl, ha2, ?_, _, rfl, _, rfl, 2, 1 + (i : Int), rfl, rfl, .inl ⟨by decide, by decide⟩, _, _, rfl, rfl, a, _, _, .int (r.getD (1 + 2 * i) 0), rfl, rfl, ha2, ?_, _, _, rfl, rfl, .inl ⟨_, rfl, _, rfl, _, _, rfl, rfl, c0, k H2 (Same.refl _)⟩⟩
    · rw [e1]
      exact atI_nat (map_int_get r (by omega))
    · rw [e2]
      exact atI_nat (map_int_get r (by omega))
  · refine ⟨D, _, rfl, .inl ⟨.of e, fun p hp => q _ _ (s2.trans (same_upd hp)) (dp_T (.of ?_))⟩⟩
    rw [upd_same]
    refine congrArg (fun l => some (HO.tup l)) ?_
    apply List.ext_getElem?
    intro k
    rw [List.getElem?_map, List.getElem?_map]
    by_cases hk : k < r.length / 2 - 1
    · rw [List.getElem?_range hk]
      unfold blacksOf
      rw [List.getElem?_zipWith, evens_get, evens_get, List.getElem?_drop, List.getElem?_drop, some_getD (show 1 + 2 * k < r.length by omega), some_getD (show 3 + 2 * k < r.length by omega)]
      rfl
    · rw [List.getElem?_eq_none (by rw [List.length_range]; omega), List.getElem?_eq_none (by rw [blacks_len]; omega)]
      rfl
end
end K61

set_option Elab.async false
set_option linter.all false
set_option maxRecDepth 100000
set_option maxHeartbeats 4000000
/-! A rule of our own: sum(list of lists, list), at least one list. -/
namespace K61
open PySem PySem.Spec PyProof.Rows L2
theorem ge_ne {n : Nat} {b I : Addr} (h : n ≤ I) (h2 : b < n) (z : b = I) : False := by
  subst z
  exact Nat.lt_irrefl _ (Nat.lt_of_lt_of_le h2 h)
theorem args_sum2 (a b : Value) : argsOk "sum" ⟨[a, b], []⟩ := by unfold argsOk; kernel_rfl
section
variable {prog : Program} {w : World} {A : Around} {R : Result → Shared → Prop} {s : Shared} {h0 : Heap} {I S l : Addr} {items : List Value}
theorem sumLL_loop (hh : A.handled = none) (hI : h0.objs.size ≤ I) (hS : h0.objs.size ≤ S) (hIS : I ≠ S) (hl : h0.IsList l items.toArray) :
    ∀ (rest : List (Addr × List Value)) (i : Nat) (h : Heap) (T : Addr) (c nT : Nat) (acc : List Value),
    items.drop i = rest.map (fun p => Value.ref p.1) → (∀ p ∈ rest, ∃ n, IsL h0 p.1 p.2.toArray n) → h.IsListIter I l i → (∀ b o, h0.get? b = some o → h.get? b = some o) → h0.objs.size ≤ h.objs.size →
    h.get? S = some { cls := .type "list", dict := none, data := .seq #[.ref T] c, slots := #[] } → IsL h T acc.toArray nT → T ≠ S → T ≠ I → acc.length + (rest.map (·.2)).flatten.length ≤ sizeLine →
    (∀ (h' : Heap) (T' : Addr) (n' : Nat), (∀ b o, h0.get? b = some o → h'.get? b = some o) → IsL h' T' (acc ++ (rest.map (·.2)).flatten).toArray n' → (rest ≠ [] ∨ h0.objs.size ≤ T → h0.objs.size ≤ T') → R (.ok (.ret (.ref T'))) { s with heap := h' }) →
    codeAny (model prog w) A (.builtin "sum.loop" ⟨[.ref I, .ref S, rawInt 2, rawInt 0], []⟩) R { s with heap := h } := by
  intro rest
  induction rest with
  | nil =>
    intro i h T c nT acc e he hi hk hz hs hT n1 n2 hb hR
    refine codeAny_builtin F.entry_sum_loop ?_
    rw [Around.under_plainId F.plain_sum_loop _]
    show wpAny _ A.in1 (seqItems? (.ref S) >>= _) _ _ _
    refine wpAny_bind (wpAny_seqItems hs rfl ?_)
    show wpAny _ A.in1 (tryCatch (pyNext (.ref I)) _ >>= _) _ _ _
    have hl' : h.IsList l items.toArray := hl.at fun o e => hk _ o e
    have hlen : items.length ≤ i := by
      have z := congrArg List.length e
      simp only [List.length_drop, List.map_nil, List.length_nil] at z
      omega
    refine wpAny_bind (wpAny_tryCatch (wpAny_pyNext_list_end (A := A.in1) hh hi hl' (by simp [hlen]) fun h' he' => ?_))
    refine wpAny_pure (hR h' T nT (fun b o q => he' b o (fun z => ge_ne hI (Heap.lt_size q) z) (hk b o q)) ?_ fun z => ?_)
    · rw [List.map_nil, List.flatten_nil, List.append_nil]
      exact he' _ _ n2 hT
    · rcases z with z | z
      · exact absurd rfl z
      · exact z
  | cons p rest ih =>
    intro i h T c nT acc e he hi hk hz hs hT n1 n2 hb hR
    refine codeAny_builtin F.entry_sum_loop ?_
    rw [Around.under_plainId F.plain_sum_loop _]
    show wpAny _ A.in1 (seqItems? (.ref S) >>= _) _ _ _
    refine wpAny_bind (wpAny_seqItems hs rfl ?_)
    show wpAny _ A.in1 (tryCatch (pyNext (.ref I)) _ >>= _) _ _ _
    have hl' : h.IsList l items.toArray := hl.at fun o e => hk _ o e
    have hx : items[i]? = some (.ref p.1) := by
      have z : (items.drop i)[0]? = some (.ref p.1) := by rw [e]; rfl
      rw [List.getElem?_drop] at z
      simpa using z
    have hd : items.drop (i + 1) = rest.map (fun p => Value.ref p.1) := by
      have z := congrArg List.tail e
      rw [List.tail_drop] at z
      exact z
    refine wpAny_bind (wpAny_tryCatch (wpAny_pyNext_list_item (A := A.in1) (x := .ref p.1) hi hl' (by simpa using hx) fun h1 hi1 sb => ?_))
    obtain ⟨n, hp⟩ := he p List.mem_cons_self
    have k1 : ∀ b o, h0.get? b = some o → h1.get? b = some o := fun b o q => sb.extBut b o (fun z => ge_ne hI (Heap.lt_size q) z) (hk b o q)
    have hs1 := sb.extBut S _ (fun z => hIS z.symm) hs
    have hT1 : IsL h1 T acc.toArray nT := sb.extBut T _ n2 hT
    have hp1 : IsL h1 p.1 p.2.toArray n := k1 _ _ hp
    show wpAny _ A.in1 ((holding [Value.ref p.1] (binaryOp .Add (.ref T) (.ref p.1))).attempt >>= _) _ _ _
    have hb' : acc.length + p.2.length ≤ sizeLine := by
      simp only [List.map_cons, List.flatten_cons, List.length_append] at hb
      omega
    refine wpAny_bind (wpAny_attempt (wpAny_holding (PySem.P.add_list hT1 hp1 ?_ (by rw [List.size_toArray, List.size_toArray]; exact hb'))))
    have hSz : S < h1.objs.size := Heap.lt_size hs1
    have hIz : I < h1.objs.size := by
      obtain ⟨o, ho, _⟩ := id hi1
      exact Heap.lt_size ho
    have hs2 := Heap.get?_push_of_some { cls := .type "list", data := .seq (acc.toArray ++ p.2.toArray) } hs1
    have hT2 := IsL.new h1 (acc.toArray ++ p.2.toArray)
    show wpAny _ A.in1 (updateSeq S (fun _ => #[.ref h1.objs.size]) >>= _) _ _ _
    refine wpAny_bind (wpAny_updateSeq hs2 rfl ?_)
    refine wpAny_bind (wpAny_letGo ?_)
    have hs3 := Heap.get?_update_self (Obj.mapSeq fun _ => #[Value.ref h1.objs.size]) hs2 rfl
    refine wpAny_bind (wpAny_updateSeq hs3 rfl (wpAny_pure ⟨plainId_quiet F.plain_sum_loop _, ?_⟩))
    have hs4 := Heap.get?_update_self (Obj.mapSeq fun _ => #[Value.ref h1.objs.size]) hs3 rfl
    have other : ∀ b o, b ≠ S → h1.get? b = some o → (((h1.push { cls := .type "list", data := .seq (acc.toArray ++ p.2.toArray) }).update S (Obj.mapSeq fun _ => #[Value.ref h1.objs.size])).update S (Obj.mapSeq fun _ => #[Value.ref h1.objs.size])).get? b = some o := fun b o hb q =>
      (Heap.get?_update_other _ _ (fun z : S = b => hb z.symm)).trans ((Heap.get?_update_other _ _ (fun z : S = b => hb z.symm)).trans (Heap.get?_push_of_some _ q))
    have hsz : h0.objs.size ≤ h1.objs.size := Nat.le_trans hI (Nat.le_of_lt hIz)
    refine ih (i + 1) _ h1.objs.size _ 0 (acc ++ p.2) hd (fun q hq => he q (List.mem_cons_of_mem _ hq)) ?_ (fun b o q => other b o (fun z => ge_ne hS (Heap.lt_size q) z) (k1 b o q)) ?_ hs4 ?_ (Nat.ne_of_gt hSz) (Nat.ne_of_gt hIz) ?_ ?_
    · exact hi1.at fun o q => other I o hIS q
    · exact Nat.le_trans hI (Nat.le_of_lt (by
        obtain ⟨o, ho, _⟩ := id hi1
        exact Heap.lt_size (other I o hIS ho)))
    · have z2 : (acc ++ p.2).toArray = acc.toArray ++ p.2.toArray := by simp
      rw [z2]
      exact (Heap.get?_update_other _ _ (Nat.ne_of_lt hSz)).trans ((Heap.get?_update_other _ _ (Nat.ne_of_lt hSz)).trans hT2)
    · simp only [List.map_cons, List.flatten_cons, List.length_append] at hb ⊢
      omega
    · intro h' T' n' a1 a2 a3
      refine hR h' T' n' a1 ?_ fun _ => a3 (.inr hsz)
      rw [List.map_cons, List.flatten_cons, ← List.append_assoc]
      exact a2
theorem call_sumLL {E : Value → Shared → Prop} {Q : Value → Shared → Prop} (hh : A.handled = none) {e : Addr} {ne : Nat} {rest : List (Addr × List Value)} (hl : s.heap.IsList l items.toArray) (e1 : items = rest.map (fun p => Value.ref p.1)) (he : ∀ p ∈ rest, ∃ n, IsL s.heap p.1 p.2.toArray n) (hne : rest ≠ [])
    (h2 : IsL s.heap e #[] ne) (hb : (rest.map (·.2)).flatten.length ≤ sizeLine)
    (hQ : ∀ (h' : Heap) (T' : Addr) (n' : Nat), (∀ b o, s.heap.get? b = some o → h'.get? b = some o) → IsL h' T' ((rest.map (·.2)).flatten).toArray n' → s.heap.objs.size ≤ T' → Q (.ref T') { s with heap := h' }) :
    wpAny (model prog w) A (call (.builtin "sum") [.ref l, .ref e]) Q E s := by
  refine call_function_tree F.kind_sum F.plain_sum F.entry_sum (args_sum2 _ _) ?_
  unfold Builtin.«sum»
  simp only [List.length_cons, List.length_nil]
  rw [if_neg (by decide)]
  refine wpAny_bind (wpAny_of_eq (show Builtin.Builtins.bindParams "sum" ["start"] 0 ⟨[.ref e], []⟩ = pure [some (.ref e)] from rfl) ?_)
  refine wpAny_bind (wpAny_pyIter_list hl ?_)
  refine wpAny_bind (wpAny_pure ?_)
  simp only [List.forIn_cons, List.forIn_nil]
  have h2' : IsL (s.heap.push { cls := .type "list_iterator", data := .fields #[.ref l, .int 0 0] }) e #[] ne := h2.push _
  have ty : Shared.TypeIs { s with heap := s.heap.push { cls := .type "list_iterator", data := .fields #[.ref l, .int 0 0] } } (.ref e) "list" := ⟨_, h2', rfl⟩
  refine wpAny_bind (wpAny_bind (wpAny_bind (wpAny_isInstance (T := "list") (b := false) ty F.sub_list_str ?_)))
  simp only [Bool.false_eq_true, if_false]
  refine wpAny_pure (wpAny_bind (wpAny_bind (wpAny_isInstance (T := "list") (b := false) ty F.sub_list_bytes ?_)))
  simp only [Bool.false_eq_true, if_false]
  refine wpAny_pure (wpAny_bind (wpAny_bind (wpAny_isInstance (T := "list") (b := false) ty F.sub_list_bytearray ?_)))
  simp only [Bool.false_eq_true, if_false]
  refine wpAny_pure (wpAny_pure ?_)
  refine wpAny_bind (wpAny_newObj_type ?_)
  have sz : ∀ o : Obj, (s.heap.push o).objs.size = s.heap.objs.size + 1 := fun o => by simp [Heap.push]
  refine wpAny_pure ⟨plainId_quiet F.plain_sum_loop _, sumLL_loop (h0 := s.heap) hh (Nat.le_refl _) (by show _ ≤ (s.heap.push _).objs.size; rw [sz]; omega) (by show _ ≠ (s.heap.push _).objs.size; rw [sz]; omega) hl rest 0 _ e 0 ne [] (by rw [List.drop_zero]; exact e1) he ?_ ?_ ?_ ?_ ?_ ?_ ?_ ?_ ?_⟩
  · exact Heap.IsListIter.at ⟨_, Heap.get?_push_size _ rfl, rfl, rfl⟩ fun o q => Heap.get?_push_of_some _ q
  · exact fun b o q => Heap.get?_push_of_some _ (Heap.get?_push_of_some _ q)
  · show _ ≤ (Heap.push _ _).objs.size
    rw [show ∀ (g : Heap) (o : Obj), (g.push o).objs.size = g.objs.size + 1 from fun g o => by simp [Heap.push], sz]
    omega
  · exact Heap.get?_push_size _ rfl
  · exact h2'.push _
  · show e ≠ (s.heap.push _).objs.size
    rw [sz]
    exact Nat.ne_of_lt (Nat.lt_succ_of_lt (Heap.lt_size h2))
  · exact Nat.ne_of_lt (Heap.lt_size h2)
  · simpa using hb
  · intro h' T' n' a1 a2 a3
    exact hQ h' T' n' a1 (by simpa using a2) (a3 (.inl hne))
end
def rSumLL (K : PySem.W.Frag) : List V → Hp → VK → Prop := fun vs H Q => ∃ (l e : Addr) (zs : List (Addr × List V)), vs = [V.ref l, V.ref e] ∧ SqL K H l (zs.map fun p => V.ref p.1) ∧ H e = some (.lst []) ∧ zs ≠ [] ∧ (∀ p ∈ zs, H p.1 = some (.lst p.2)) ∧ (zs.map (·.2)).flatten.length ≤ sizeLine ∧
  ∀ p, H p = none → Q (.ref p) (upd H p (.lst (zs.map (·.2)).flatten))
theorem refs_zs : ∀ (zs : List (Addr × List V)) (us : List Value), Vals (zs.map fun p => V.ref p.1) us → us = zs.map fun p => Value.ref p.1
  | [], _, .nil => rfl
  | z :: zs, _ :: us, .cons r t => by
    cases r
    rw [refs_zs zs us t]
    rfl
theorem zs_real {X : Cx} {pins : List (Addr × Obj)} {σ : L2.St} {H : Hp} {s : Shared} (I : L2.Inv X pins σ H s) : ∀ zs : List (Addr × List V), (∀ p ∈ zs, H p.1 = some (.lst p.2)) → ∃ rs : List (Addr × List Value), rs.map (·.1) = zs.map (·.1) ∧ (∀ p ∈ rs, ∃ n, IsL s.heap p.1 p.2.toArray n) ∧ Vals (zs.map (·.2)).flatten (rs.map (·.2)).flatten
  | [], _ => ⟨[], rfl, fun _ hp => by simp at hp, .nil⟩
  | z :: zs, h => by
    obtain ⟨rs, h1, h2, h3⟩ := zs_real I zs fun p hp => h p (List.mem_cons_of_mem _ hp)
    obtain ⟨hz, its, n, rv, hz2, hl⟩ := I.lstM (h z List.mem_cons_self)
    refine ⟨(z.1, its) :: rs, by simp [h1], fun p hp => ?_, ?_⟩
    · rcases List.mem_cons.mp hp with rfl | hp
      · exact ⟨n, hl⟩
      · exact h2 p hp
    · simp only [List.map_cons, List.flatten_cons]
      exact rv.append h3
theorem vals_len : ∀ {xs : List V} {us : List Value}, Vals xs us → xs.length = us.length := fun r => r.length
theorem cr_sumLL {X : Cx} (hc : X.calm = true) : CallR X (.builtin "sum") (rSumLL X.K) := by
  intro pins s σ H vs us Q I r h
  obtain ⟨l, e, zs, rfl, hs, he, hne, hz, hb, q⟩ := h
  obtain ⟨u1, u2, rfl, r1, r2⟩ := vals2 r
  obtain rfl : u1 = Value.ref l := r1
  obtain rfl : u2 = Value.ref e := r2
  obtain ⟨its, rv, hl, _⟩ := I.list hs
  obtain ⟨_, its2, n2, rv2, _, hl2⟩ := I.lstM he
  have z2 := rv2.zero
  subst z2
  obtain rfl := refs_zs _ _ rv
  obtain ⟨rs, a1, a2, a3⟩ := zs_real I zs hz
  have hne' : rs ≠ [] := by
    rintro rfl
    cases zs with
    | nil => exact hne rfl
    | cons _ _ => simp at a1
  refine call_sumLL (I.ok.hd hc) (rest := rs) hl.isList ?_ a2 hne' hl2 ?_ fun h' T' n' b1 b2 b3 => ?_
  · have z := congrArg (List.map Value.ref) a1
    simp only [List.map_map] at z
    exact z.symm
  · rw [← vals_len a3]
    exact hb
  · exact ⟨.ref T', upd H T' (.lst (zs.map (·.2)).flatten), I.laid (t' := s.toks) b1 b3 ⟨hb, _, n', a3, b2⟩, rfl, q T' (I.hok.fresh b3)⟩
end K61

set_option Elab.async false
set_option linter.all false
set_option maxRecDepth 100000
set_option maxHeartbeats 4000000
/-! Rules of our own: a slice of a tuple, the whole of it or less; an item's place in a tuple within a comprehension. -/
namespace K61
open PySem PySem.Spec PyProof.Rows L2 HT
section
variable {prog : Program} {w : World} {A : Around} {E : Value → Shared → Prop} {s : Shared}
theorem getItem_tuple_all {t sl : Addr} {items : Array Value} {vl vu : Value} {lo hi : Option Int} {Q : Value → Shared → Prop} (ht : IsTup s.heap t items) (hs : s.heap.IsSliceOf sl vl vu .none) (pl : IsPart vl lo) (pu : IsPart vu hi)
    (hw : sIx items.size 0 lo = 0 ∧ sIx items.size items.size hi = items.size) (h : Q (.ref t) s) : wpAny (model prog w) A (getItem (.ref t) (.ref sl)) Q E s := by
  obtain ⟨os, hos, hcs, hds⟩ := id hs
  have hTs : s.TypeIs (.ref sl) "slice" := ⟨os, hos, hcs⟩
  obtain ⟨ot, hot, hct, nt, hdt⟩ := id ht
  have hTt : s.TypeIs (.ref t) "tuple" := ⟨ot, hot, hct⟩
  unfold getItem
  try with_reducible refine wpAny_holding ?_
  first | refine wpAny_bind (wpAny_pure ?_) | skip
  refine wpAny_bind (wpAny_sequenceKey ht.typeIs (by decide) ?_)
  refine wpAny_bind (wpAny_callSpecial?_slot (name := Str.ofString "__getitem__") ht.typeIs PyProof.Rows.slot_tuple_getitem
    (wpAny_call_entry PyProof.Rows.slot_tuple_getitem ht.typeIs entry_tuple_getitem ?_ (args_tuple_getitem _ _)))
  show wpAny _ _ (Builtin.Tuple.tupleItemsOf (.ref t) >>= _) _ _ s
  refine wpAny_bind (tupleItemsOf_ ht ?_)
  refine wpAny_bind (wpAny_typeOf hTs ?_)
  rw [if_pos (by decide)]
  refine wpAny_bind (sliceApplied_gen hs pl pu ?_)
  have hyes : ((((sIx items.size 0 lo : Nat) : Int) == 0 && (1 : Int) == 1 && (sIx items.size items.size hi - sIx items.size 0 lo) == items.size) = true) := by
    rw [hw.1, hw.2]
    simp
  show wpAny _ _ (if (((sIx items.size 0 lo : Nat) : Int) == 0 && (1 : Int) == 1 && (sIx items.size items.size hi - sIx items.size 0 lo) == items.size) = true then _ else _) _ _ s
  rw [if_pos hyes]
  refine wpAny_bind (m := Builtin.Tuple.tupleIsExact (.ref t)) (wpAny_bind (wpAny_typeOf hTt (wpAny_pure ?_)))
  rw [if_pos (by decide)]
  first
    | exact wpAny_bind (wpAny_rule (wpAny_pure ⟨_, rfl, wpAny_pure h⟩))
    | exact wpAny_bind (wpAny_bind (wpAny_rule (wpAny_pure ⟨_, rfl, wpAny_pure h⟩)))
    | exact wpAny_bind (wpAny_rule (wpAny_pure (wpAny_pure ⟨_, rfl, wpAny_pure h⟩)))
    | exact wpAny_bind (wpAny_bind (wpAny_rule (wpAny_pure (wpAny_pure ⟨_, rfl, wpAny_pure h⟩))))
end
/-- t[lo:hi]: the whole of it is t itself -/
def rSlA (K : PySem.W.Frag) : V → Option Int → Option Int → Hp → VK → Prop := fun x lo hi H Q => ∃ a xs, x = .ref a ∧ SqT K H a xs ∧
  ((sIx xs.length 0 lo = 0 ∧ sIx xs.length xs.length hi = xs.length) → Q (.ref a) H) ∧ (¬ (sIx xs.length 0 lo = 0 ∧ sIx xs.length xs.length hi = xs.length) → ∀ p, H p = none → Q (.ref p) (upd H p (.tup (cutV xs lo hi))))
section
variable {X : Cx}
theorem sl_tupA : SlR X (rSlA X.K) := by
  intro pins s σ H x v vl vu lo hi sl Q I rx hs pl pu h
  obtain ⟨a, xs, rfl, hx, q1, q2⟩ := h
  by_cases hw : sIx xs.length 0 lo = 0 ∧ sIx xs.length xs.length hi = xs.length
  · cases rx
    obtain ⟨its, r, ht, hz⟩ := I.tuple hx
    have hlen : its.toArray.size = xs.length := by rw [List.size_toArray]; exact r.length.symm
    refine ⟨"tuple", _, PyProof.Rows.slot_tuple_getitem.lookup, ht.typeIs, ?_⟩
    exact getItem_tuple_all ht hs pl pu (by rw [hlen]; exact hw) ⟨.ref a, H, I, rfl, q1 hw⟩
  · exact sl_tup pins s σ H _ v vl vu lo hi sl Q I rx hs pl pu ⟨a, xs, rfl, hx, hw, q2 hw⟩
variable (K : PySem.W.Frag)
theorem kSlA (h : X.K = K := by rfl) : SlR X (rSlA K) := by
  subst h
  exact sl_tupA
theorem kTix (h : X.K = K := by rfl) : MtR X "tuple.index" (fun x xs H Q => ∃ (p : Addr) (ys : List Int) (z : Int) (j : Nat), x = .ref p ∧ xs = [.int z] ∧ SqT K H p (ys.map V.int) ∧ ys[j]? = some z ∧ (∀ m, m < j → ys[m]? ≠ some z) ∧ Q (.int (j : Nat)) H) := by
  subst h
  exact mt_tixI
theorem kSumLL (hc : X.calm = true) (h : X.K = K := by rfl) : CallR X (.builtin "sum") (rSumLL K) := by
  subst h
  exact cr_sumLL hc
theorem kBM {o e : Expr} {es : List Expr} {to : TE} {t : TA} {name : Str} {apos cpos : Pos} {T id : String} {r : V → List V → Hp → VK → Prop} (pa : PlainAttrs T) (slot : Slot T name id) (hty : typeOf (.builtin id) = pure (.type "method_descriptor")) (hm : MtR X id r) (ho : PE X o to) (ha : PA X (e :: es) t)
    (hbase : attributeBase o name X.env (eval o X.env) = eval o X.env := by rfl)
    (hfew : ((backTo cpos (starEach (e :: es) X.env)).all (fun x => !x.1) && (backToKw cpos (keywordEach [] X.env)).all (fun x => x.1.isSome)
      && decide ((e :: es).length + ([] : List Keyword).length + (if ([] : List Keyword).isEmpty then 0 else 1) < 30)) = true := by rfl)
    (hline : (apos.endLine == cpos.line) = true := by rfl) (hs : starEach (e :: es) X.env = (false, eval e X.env) :: starEach es X.env := by rfl) (hplain : (backTo cpos (starEach es X.env)).any (·.1) = false := by rfl) (h : X.K = K := by rfl) :
    PE X (.Call (.Attribute o name apos) (e :: es) [] cpos) (tBM K T r to t) := by
  subst h
  exact pe_bm pa slot hty hm ho ha hbase hfew hline hs hplain
/-- a tuple of the heap whose object is known to have no dict -/
def FrzT (H : Hp) (x : V) : Prop := ∃ b o xs, x = .ref b ∧ H b = some (.frz o (.tup xs)) ∧ o.dict = none
theorem FrzT.same {H H' : Hp} {x : V} (s : Same H H') (h : FrzT H x) : FrzT H' x := by
  obtain ⟨b, o, xs, e, h1, h2⟩ := h
  exact ⟨b, o, xs, e, s _ _ h1, h2⟩
def rTupF (K : PySem.W.Frag) : List V → Hp → VK → Prop := fun xs H Q => ∃ p ys, xs = [.ref p] ∧ SqL K H p ys ∧ ∀ l o, H l = none → o.dict = none → Q (.ref l) (upd H l (.frz o (.tup ys)))
theorem kTupF (h : X.K = K := by rfl) : CallR X (.type "tuple") (rTupF K) := by
  subst h
  intro pins s σ H xs us Q I r h
  obtain ⟨p, ys, rfl, hq, q⟩ := h
  obtain ⟨u, rfl, rx⟩ := vals1 r
  cases rx
  obtain ⟨its, r', pl, hz⟩ := I.list hq
  have hlen := r'.length
  refine call_tuple_list pl.isList (fun h' kp => ?_) (by simp only [List.size_toArray] <;> omega)
  have I1 : L2.Inv X pins σ H { s with heap := h' } := I.kept (t' := s.toks) kp
  have I2 : L2.Inv X pins σ (upd H h'.objs.size (.frz { cls := .type "tuple", data := .seq its.toArray } (.tup ys))) { s with heap := h'.push { cls := .type "tuple", data := .seq its.toArray } } :=
    I1.laid (t' := s.toks) (fun b o e => Heap.get?_push_of_some _ e) (Nat.le_refl _) (show ObjOk X.prog X.w _ _ _ (.frz _ (.tup ys)) from ⟨Heap.get?_push_size _ rfl, hz, its, r', IsTup.new _ _⟩)
  exact ⟨.ref h'.objs.size, _, I2, rfl, q _ _ (I1.hok.fresh (Nat.le_refl _)) rfl⟩
def tBMF (r : V → List V → Hp → VK → Prop) (to : TE) (t : TA) : TE := fun σ H Q => to σ H fun x H1 => FrzT H1 x ∧ t σ H1 fun xs H2 => r x xs H2 Q
theorem kBMF {o e : Expr} {es : List Expr} {to : TE} {t : TA} {name : Str} {apos cpos : Pos} {id : String} {r : V → List V → Hp → VK → Prop} (pa : PlainAttrs "tuple") (slot : Slot "tuple" name id) (hty : typeOf (.builtin id) = pure (.type "method_descriptor")) (hm : MtR X id r) (ho : PE X o to) (ha : PA X (e :: es) t)
    (hbase : attributeBase o name X.env (eval o X.env) = eval o X.env := by rfl)
    (hfew : ((backTo cpos (starEach (e :: es) X.env)).all (fun x => !x.1) && (backToKw cpos (keywordEach [] X.env)).all (fun x => x.1.isSome)
      && decide ((e :: es).length + ([] : List Keyword).length + (if ([] : List Keyword).isEmpty then 0 else 1) < 30)) = true := by rfl)
    (hline : (apos.endLine == cpos.line) = true := by rfl) (hs : starEach (e :: es) X.env = (false, eval e X.env) :: starEach es X.env := by rfl) (hplain : (backTo cpos (starEach es X.env)).any (·.1) = false := by rfl) :
    PE X (.Call (.Attribute o name apos) (e :: es) [] cpos) (tBMF r to t) := by
  refine ⟨fun pins s σ H Q I h => ?_⟩
  refine wpAny_Call_method_late hbase hfew hline rfl (thn (ho.run pins s σ H _ I h) fun v s1 ⟨x, H1, I1, r1, ty, q1⟩ => ?_)
  obtain ⟨b, ob, xs, rfl, hb, hd⟩ := ty
  cases r1
  obtain ⟨g, _, its, _, o2, g2, hc, n, hdt⟩ := (show ObjOk X.prog X.w H1 s1.heap b (.frz ob (.tup xs)) from I1.hok b _ hb)
  rw [g] at g2
  cases g2
  refine ⟨"tuple", id, pa, slot, hty, ⟨ob, g, hc⟩, fun a e => ⟨ob, ?_, hd⟩, ?_⟩
  · cases e
    exact g
  have hA := ha.run cpos pins s1 σ H1 _ I1 q1
  rw [hs] at hA ⊢
  refine Calls.callWith_builtin (by show (false || (backTo cpos (starEach es X.env)).any (·.1)) = false; rw [hplain] <;> rfl) (Calls.evalArgs_plain ?_)
  exact thn hA fun us s2 ⟨vs, H2, I2, r2, q2⟩ => hm pins s2 σ H2 (.ref b) vs (.ref b) us Q I2 rfl r2 q2
end
end K61

set_option Elab.async false
set_option linter.all false
set_option maxRecDepth 100000
set_option maxHeartbeats 4000000
/-! The walks: the law's own clearing. -/
namespace K61
open PySem PySem.Spec PyProof.Rows L2
theorem rng_if {t : L2.TT} {ta tb : TE} {g : TG} {bd k : TS} {D : Ends} {σ : L2.St} {H : Hp} (m : Nat) (Pst : Hp → Prop) (hm : m < 2 ^ 62) (main : ∀ Q : VK, (∀ H', Pst H' → Q (.int (m : Nat)) H') → tIf t ta tb σ H Q)
    (rest : ∀ H', Pst H' → tFor (fun _ H R => R (Itr 0 m) H) g bd { D with nx := k D } σ H') : tSeq (tFor (iRng1 (tCons (tIf t ta tb) tNil)) g bd) k D σ H := by
  refine main _ fun H' h => ⟨(m : Int), rfl, by omega, by omega, ?_⟩
  have e : ((m : Int)).toNat = m := by omega
  rw [e]
  exact rest H' h
abbrev s_Lleast : Stmt := top 69
abbrev N_Lleast : List Str := ["_law_clock", "_law_rows_here", "_law_found", "_law_done", "_law_place", "_law_spots", "_law_lead", "_law_times", "_law_row", "_law_at", "_law_number"]
theorem sc_Lleast : FnScope N_Lleast ["_law_clock", "_law_rows_here"] (defScope s_Lleast) := ⟨rfl, rfl, rfl, by decide +kernel, rfl, by decide +kernel, by decide +kernel⟩
/-- a list of rows -/
def LRows (K : PySem.W.Frag) (H : Hp) (v : V) (rs : List (List Int)) : Prop := ∃ a us, v = .ref a ∧ SqL K H a us ∧ Paired (RowV K H) us rs
theorem LRows.same {K : PySem.W.Frag} {H H' : Hp} {v : V} {rs : List (List Int)} (s : Same H H') (h : LRows K H v rs) : LRows K H' v rs := by
  obtain ⟨a, us, e, h, p⟩ := h
  exact ⟨a, us, e, s.seq h, Paired.mapP p fun _ _ => RowV.same s⟩
theorem RL.lrows {K : PySem.W.Frag} {H : Hp} {R : Addr} {rows : List (List Int)} (h : RL K H R rows) : LRows K H (.ref R) rows := by
  obtain ⟨vs, e, d⟩ := h
  exact ⟨R, vs, rfl, .of e, rows_L (dpa_same same_del d)⟩
/-- a tuple of tuples of which each object is known -/
def FrzRows (K : PySem.W.Frag) (H : Hp) (v : V) (rs : List (List Int)) : Prop := ∃ a us, v = .ref a ∧ SqT K H a us ∧ DpAll K H us (rs.map dT) ∧ ∀ u ∈ us, FrzT H u
theorem FrzRows.same {K : PySem.W.Frag} {H H' : Hp} {v : V} {rs : List (List Int)} (s : Same H H') (h : FrzRows K H v rs) : FrzRows K H' v rs := by
  obtain ⟨a, us, e, h1, h3, h2⟩ := h
  exact ⟨a, us, e, same_tup s h1, dpa_same s h3, fun u hu => (h2 u hu).same s⟩
theorem FrzRows.dp {K : PySem.W.Frag} {H : Hp} {v : V} {rs : List (List Int)} (h : FrzRows K H v rs) : Dp K H v (dTT rs) := by
  obtain ⟨a, us, rfl, h1, h3, _⟩ := h
  exact .tup h1 h3
/-- every turn gives a known tuple of data -/
theorem lc_frz {K : PySem.W.Frag} {J : It} {n : Nat} {G : Hp → Prop} {Y : Nat → Hp → V → Hp → Prop} (w : Walk J n G Y) {g : TG} {te : TE} {vs : List Nat} {σ : L2.St} {H1 : Hp} {D : Addr} {Qd : Hp → Prop} (f : Nat → PyData) (hD : H1 D = none) (hn : n ≤ sizeLine)
    (hG : ∀ H, Same H1 H → G H)
    (hs : ∀ i x H H' (N : V → Hp → Prop), i < n → Same H1 H → (∃ acc, H D = some (.lst acc)) → Y i H x H' → (∀ y H4, Same H H4 → Dp K (del H4 D) y (f i) → FrzT (del H4 D) y → N y H4) → g x (wipe σ vs) H' fun σ2 H2 => wipe σ2 vs = wipe σ vs ∧ te σ2 H2 N)
    (hd : ∀ H xs, Same H1 H → H D = some (.lst xs) → DpAll K (del H D) xs ((List.range n).map f) → (∀ u ∈ xs, FrzT (del H D) u) → Qd H) :
    ∃ W : Nat → Nat → Hp → Prop, (∃ m, W 0 m (upd H1 D (.lst []))) ∧ ∀ i m H, W i m H →
      (J.stop i H ∧ Qd H) ∨ (J.go i H ∧ ∃ Nx : Hp → Prop, (∀ H', Nx H' → ∃ m', m' < m ∧ W (i + 1) m' H') ∧ ∀ x H', J.yld i H x H' → g x (wipe σ vs) H' fun σ2 H2 => wipe σ2 vs = wipe σ vs ∧ tYes σ2 H2 fun b H3 =>
        if b = true then te σ2 H3 fun y H4 => ∃ acc, H4 D = some (.lst acc) ∧ acc.length < sizeLine ∧ Nx (upd H4 D (.lst (acc ++ [y]))) else Nx H3) := by
  refine lcg w (fun i acc H => DpAll K H acc ((List.range i).map f) ∧ ∀ u ∈ acc, FrzT H u) hD hG (fun _ _ _ _ s r => ⟨dpa_same s r.1, fun u hu => (r.2 u hu).same s⟩) ⟨.nil, fun _ h => absurd h (by simp)⟩ (fun i x H H' acc N N0 hi s ea r y k _ => ?_) (fun H xs s e r => hd H xs s e r.1 r.2)
  refine hs i x H H' N hi s ⟨acc, ea⟩ y fun v H4 s4 d4 f4 => k v H4 s4 ?_ ⟨?_, fun u hu => ?_⟩
  · rw [dpa_length r.1, List.length_map, List.length_range]
    omega
  · rw [List.range_succ, List.map_append]
    exact dpa_snoc d4 (dpa_same (same_dels s4 D) r.1)
  · rcases List.mem_append.mp hu with hu | hu
    · exact (r.2 u hu).same (same_dels s4 D)
    · have e : u = v := by simpa using hu
      rw [e]
      exact f4
def sp_Lleast (K : PySem.W.Frag) : Sp := fun vs H Q _ => ∃ (c : Int) (n : Nat) (x : V) (rs : List (List Int)), vs = [.int c, x] ∧ LRows K H x rs ∧ Clock c ∧ (∀ r ∈ rs, RowOk c n r) ∧ n ≤ 1000 ∧ rs.length ≤ 1000 ∧ ∀ (H' : Hp) (v : V), Same H H' → FrzRows K H' v (leastIn c rs) → Q v H'
theorem RL.get {K : PySem.W.Frag} {H : Hp} {R : Addr} {rows : List (List Int)} {vs : List V} {k : Nat} (hv : DpAll K (del H R) vs (rows.map dL)) (hk : k < rows.length) : ∃ b, vs[k]? = some (.ref b) ∧ SqL K (del H R) b ((rows.getD k []).map V.int) := by
  have el : vs.length = rows.length := by rw [dpa_length hv, List.length_map]
  have hu : vs[k]? = some vs[k] := List.getElem?_eq_getElem (by omega)
  obtain ⟨r, hr, d⟩ := row_get hv hu
  obtain ⟨b, eb, q⟩ := dp_L' d
  refine ⟨b, by rw [hu, eb], ?_⟩
  rw [List.getD_eq_getElem?_getD, hr]
  exact q
theorem dpa_erase {K : PySem.W.Frag} {H : Hp} : ∀ {vs : List V} {ds : List PyData} (k : Nat), DpAll K H vs ds → DpAll K H (vs.eraseIdx k) (ds.eraseIdx k)
  | _, _, _, .nil => .nil
  | _, _, 0, .cons _ b => b
  | _, _, k + 1, .cons a b => .cons a (dpa_erase k b)
theorem dpa_take {K : PySem.W.Frag} {H : Hp} : ∀ {vs : List V} {ds : List PyData} (k : Nat), DpAll K H vs ds → DpAll K H (vs.take k) (ds.take k)
  | _, _, 0, _ => .nil
  | _, _, _ + 1, .nil => .nil
  | _, _, k + 1, .cons a b => .cons a (dpa_take k b)
theorem dpa_drop {K : PySem.W.Frag} {H : Hp} : ∀ {vs : List V} {ds : List PyData} (k : Nat), DpAll K H vs ds → DpAll K H (vs.drop k) (ds.drop k)
  | _, _, 0, q => q
  | _, _, _ + 1, .nil => .nil
  | _, _, k + 1, .cons _ b => dpa_drop k b
theorem map_erase {α β : Type} (f : α → β) : ∀ (l : List α) (k : Nat), (l.eraseIdx k).map f = (l.map f).eraseIdx k
  | [], _ => rfl
  | _ :: _, 0 => rfl
  | x :: l, k + 1 => by
    rw [List.eraseIdx_cons_succ, List.map_cons, List.map_cons, List.eraseIdx_cons_succ, map_erase f l k]
theorem getD_map_nil {l : List (List Int)} {k : Nat} {f : List Int → List Int} (h : k < l.length) : (l.map f).getD k [] = f (l.getD k []) := by
  rw [List.getD_eq_getElem?_getD, List.getElem?_map, List.getD_eq_getElem?_getD, List.getElem?_eq_getElem h]
  rfl
section
variable {P : Program} {w : World} {K : PySem.W.Frag} {mg : Str → Option Value} {base : Heap} {f : Addr} {fd : FuncData}
theorem ok_Lleast (B : Bi mg) (c__law_less : Cal P w K mg base CX0 1 "_law_less" ["_law_clock", "_law_row", "_law_lead", "_law_place"] [] (sp_less K)) (F : FnP K "_law_least" s_Lleast f fd) : FnOk P w K mg base CX0 2 f fd ["_law_clock", "_law_rows_here"] (sp_Lleast K) := by
  have nd := sc_Lleast.nd
  refine okN F sc_Lleast (fun vs H Q E h => by obtain ⟨c, n, x, rs, rfl, _⟩ := h; rfl) (fun cdv A outer s H vs Q E hr h => ?_)
  have hr__law_less := hr
  refine ⟨_, (pss_cons (ps_asg (pe_tup (pa_cons (pe_lc (own := [("_law_row", 8)]) rfl nd (pi_list (pv 1)) (blkOk_by (N := N_Lleast) (sc := (defScope s_Lleast)) (by decide +kernel)) (fun _ _ _ _ _ => by exact (pgn 8 nd)) (fun _ _ _ _ _ => by exact pts_nil) (fun _ _ _ _ _ => by exact (pe_callTy (kList K) rfl B.list bt_list (pa_cons (pv 8) pa_nil)))) (pa_cons pe_int pa_nil))) (pg_tup rfl (pgs_cons (pgn 2 nd) (pgs_cons (pgn 3 nd) pgs_nil))))
      (pss_cons (ps_for PassesOwn.never rfl (pi_range1 rfl B.range (pa_cons (pe_ifExp (pt_cmpR (op_neD hr.units) (pv 1) (pe_lst pa_nil) (nomark _)) (pe_callB (kLen K) rfl B.len bt_len (pa_cons (pe_ix (kIxL K) (pv 1) pe_int (fun _ _ => rfl)) pa_nil)) pe_int) pa_nil)) (pgn 4 nd)
      (pss_cons (ps_setLc (i := 5) (own := [("_law_at", 9)]) rfl nd rfl rfl (sw_true rfl rfl rfl (by decide +kernel)) (pi_range2 rfl B.range (pa_cons (pv 3) (pa_cons (pe_callB (kLen K) rfl B.len bt_len (pa_cons (pv 2) pa_nil)) pa_nil))) (blkOk_by (N := N_Lleast) (sc := (defScope s_Lleast)) (by decide +kernel)) (fun _ _ _ _ _ => by exact (pgn 9 nd)) (fun _ _ _ _ _ => by exact (pts_one (pt_cmpR op_ne (pe_ix (kIxL K) (pe_ix (kIxL K) (pv 2) (pv 9) (fun _ _ => rfl)) (pv 4) (fun _ _ => rfl)) pe_int (nomark _)))) (fun _ _ _ _ _ => by exact (pv 9)))
      (pss_cons (ps_if (pt_cmpR (op_eqD hr.units) (pv 5) (pe_lst pa_nil) (nomark _)) (pss_one ps_continue) pss_nil)
      (pss_cons (ps_asg (pe_bm PySem.F.plainAttrs_list PySem.F.slot_list_pop PySem.F.type_list_pop mt_popAt (pv 2) (pa_cons (pe_ix (kIxL K) (pv 5) pe_int (fun _ _ => rfl)) pa_nil)) (pgn 6 nd))
      (pss_cons (ps_asg (pe_ix (kIxL K) (pe_lc (own := [("_law_number", 10)]) rfl nd (pi_range2 rfl B.range (pa_cons pe_int (pa_cons (pv 0) pa_nil))) (blkOk_by (N := N_Lleast) (sc := (defScope s_Lleast)) (by decide +kernel)) (fun _ _ _ _ _ => by exact (pgn 10 nd)) (fun _ _ _ _ _ => by exact (pts_one (pt_cmpR op_eq (pe_op op_mod (pe_callTy call_int1 rfl B.int bt_int (pa_cons (pe_op op_mul (pv 10) (pe_ix (kIxL K) (pv 6) (pv 4) (fun _ _ => rfl))) pa_nil)) (pv 0)) pe_int (nomark _)))) (fun _ _ _ _ _ => by exact (pv 10))) pe_int (fun _ _ => rfl)) (pgn 7 nd))
      (pss_cons (ps_asg (pe_lc (own := [("_law_number", 10)]) rfl nd (pi_list (pv 6)) (blkOk_by (N := N_Lleast) (sc := (defScope s_Lleast)) (by decide +kernel)) (fun _ _ _ _ _ => by exact (pgn 10 nd)) (fun _ _ _ _ _ => by exact pts_nil) (fun _ _ _ _ _ => by exact (pe_op op_mod (pe_callTy call_int1 rfl B.int bt_int (pa_cons (pe_op op_mul (pv 7) (pv 10)) pa_nil)) (pv 0)))) (pgn 6 nd))
      (pss_cons (ps_asg (pe_lc (own := [("_law_row", 8)]) rfl nd (pi_list (pv 2)) (blkOk_by (N := N_Lleast) (sc := (defScope s_Lleast)) (by decide +kernel)) (fun _ _ _ _ _ => by exact (pgn 8 nd)) (fun _ _ _ _ _ => by exact pts_nil) (fun _ _ _ _ _ => by exact (e_call c__law_less hr__law_less pass0 (pa_cons (pv 0) (pa_cons (pv 8) (pa_cons (pv 6) (pa_cons (pv 4) pa_nil))))))) (pgn 2 nd))
      (pss_cons (ps_expr (pe_bm PySem.F.plainAttrs_list PySem.F.slot_list_insert PySem.F.type_list_insert mt_insert (pv 2) (pa_cons (pv 3) (pa_cons (pv 6) pa_nil))))
      (pss_one (ps_asg (pe_op op_add (pv 3) pe_int) (pgn 3 nd)))))))))))
      (pss_one (ps_ret (pe_callTy (kTup K) rfl B.tuple bt_tuple (pa_cons (pe_lc (own := [("_law_row", 8)]) rfl nd (pi_list (pe_slice (kSlL K) (pv 2) po_none (po_some (pv 3)))) (blkOk_by (N := N_Lleast) (sc := (defScope s_Lleast)) (by decide +kernel)) (fun _ _ _ _ _ => by exact (pgn 8 nd)) (fun _ _ _ _ _ => by exact pts_nil) (fun _ _ _ _ _ => by exact (pe_callTy (kTupF K) rfl B.tuple bt_tuple (pa_cons (pv 8) pa_nil)))) pa_nil)))))), ?_⟩
  obtain ⟨c, n, x, rs, rfl, ⟨a, us, rfl, ha, pr⟩, hc, hok, hn, hm, q⟩ := h
  have c0 := hc.pos
  have c1 := hc.le
  have c3 := hc.two
  have el : us.length = rs.length := Paired.length pr
  have big : (10000 : Nat) ≤ sizeLine := by decide
  -- found, done = ([list(row) for row in rows], 0)
  refine ⟨_, rfl, a, rfl, ⟨_, ha⟩, fun D hD => ?_⟩
  refine lc_data (K := K) (walk_list (xs := us)) (fun i => dL (rs.getD i [])) hD (by omega) (fun H' z => z.seq ha) (fun i u Ha Hb N hi s4 hacc y k => ?_) (fun H1 xs s1 eD hxs => ?_)
  · obtain ⟨rfl, hu⟩ := y
    obtain ⟨r, hr1, ⟨b, rfl, hb⟩⟩ := paired_get pr hu
    obtain ⟨acc, hacc⟩ := hacc
    rw [List.getD_eq_getElem?_getD, hr1] at k
    refine ⟨rfl, _, rfl, b, _, rfl, hb.elim (fun z => .inl (s4.seq z)) (fun z => .inr (same_tup s4 z)), fun T hT => k _ _ (same_upd hT) ?_⟩
    have nT : T ≠ D := fun z => by rw [z, hacc] at hT; cases hT
    exact dp_L (.of (by rw [del_ne nT]; exact upd_same))
  · have zz := map_range_getD rs [] dL
    rw [el, zz] at hxs
    refine ⟨(by show 2 ≤ sizeLine; decide), fun T hT => ⟨T, _, rfl, .of upd_same, rfl, _, _, rfl, _, _, rfl, rfl, ?_⟩⟩
    have rl1 : RL K (upd H1 T (.tup [.ref D, .int 0])) D rs := RL.same (same_upd hT) ⟨xs, eD, hxs⟩
    have s2 : Same H (upd H1 T (.tup [.ref D, .int 0])) := s1.trans (same_upd hT)
    generalize upd H1 T (.tup [.ref D, .int 0]) = H2 at rl1 s2
    -- for place in range(..)
    dsimp only
    refine rng_if (rs.headD []).length (Same H2) ?_ ?_ (fun H3 s3 => ?_)
    rotate_left 2
    · skip
      refine for_it (walk_r0 (n := (rs.headD []).length)) (fun i σ H' => Same H H' ∧ ∃ F x4 x5 x6 x7 x8 x9 x10, H F = none ∧ RL K H' F (lawRun c rs i).1 ∧ σ = [some (.int c), some (.ref a), some (.ref F), some (.int ((lawRun c rs i).2 : Nat)), x4, x5, x6, x7, x8, x9, x10])
        ⟨s2.trans s3, D, _, _, _, _, _, _, _, hD, rl1.same s3, rfl⟩ (fun _ _ _ _ _ => trivial) ?_ ?_
      · rintro i u σ Ha Hb hi ⟨s4, F, x4, x5, x6, x7, x8, x9, x10, hF, rl, rfl⟩ ⟨rfl, rfl⟩
        rw [lawRun_succ]
        have lok := lawRun_ok (rs := rs) hc hok i
        have hin : i < n := by
          cases rs with
          | nil => exact absurd hi (by show ¬ i < 0; omega)
          | cons r0 rs' =>
            have : i < r0.length := hi
            rw [(hok r0 List.mem_cons_self).1] at this
            exact this
        generalize lawRun c rs i = st at lok rl ⊢
        obtain ⟨fd', done⟩ := st
        have llen : fd'.length = rs.length := lok.len
        have ldone : done ≤ rs.length := lok.le
        obtain ⟨vs, eF, hvs⟩ := rl
        have elv : vs.length = fd'.length := by rw [dpa_length hvs, List.length_map]
        have rowsOk : ∀ k, k < fd'.length → RowOk c n (fd'.getD k []) := fun k hk => lok.row _ (getD_mem hk)
        -- spots
        refine ⟨_, rfl, _, rfl, F, vs, rfl, .inl (.of eF), _, _, rfl, by omega, fun D1 hD1 => ?_⟩
        have tn1 : ((vs.length : Int) - (done : Int)).toNat = fd'.length - done := by omega
        rw [tn1]
        refine lc_filt (walk_range (lo := (done : Int)) (n := fd'.length - done)) (fun k => decide ((fd'.getD (done + k) []).getD i 0 ≠ 0)) (fun k => .int ((done + k : Nat))) hD1 (by omega) (fun _ _ => trivial) (fun k u Hc Hd N N0 hk s5 _ y k1 k0 => ?_) (fun H5 s5 eD1 => ?_)
        · obtain ⟨rfl, rfl⟩ := y
          obtain ⟨b, eb, hb⟩ := RL.get hvs (show done + k < fd'.length by omega)
          have e1 : ((done : Int) + (k : Int)) = ((done + k : Nat) : Int) := by omega
          have hb5 : SqL K Hd b ((fd'.getD (done + k) []).map V.int) := s5.seq (same_del.seq hb)
          have ok := rowsOk (done + k) (by omega)
          refine ⟨rfl, _, rfl, _, rfl, F, vs, _, .ref b, rfl, rfl, .of (s5 _ _ eF), ?_, _, rfl, b, _, _, _, rfl, rfl, hb5, atI_nat (map_int_get _ (by rw [ok.1]; exact hin)), rfl, _, rfl, ?_⟩
          · rw [e1]
            exact atI_nat eb
          · by_cases hz : (fd'.getD (done + k) []).getD i 0 = 0
            · rw [hz]
              exact iteF (k0 (by rw [hz]; rfl) _ (Same.refl _))
            · have ez : (!decide (V.int ((fd'.getD (done + k) []).getD i 0) = V.int 0)) = true := by
                rw [decide_eq_false (fun z => hz (V.int.inj z))]
                rfl
              rw [ez]
              refine iteT ⟨_, rfl, ?_⟩
              have := k1 (decide_eq_true hz) Hd (Same.refl _)
              rw [← e1] at this
              exact this
        · have esp : (((List.range (fd'.length - done)).filter fun k => decide ((fd'.getD (done + k) []).getD i 0 ≠ 0)).map fun k => V.int ((done + k : Nat))) = (spotsOf (fd', done) i).map fun a => V.int (a : Nat) := by
            unfold spotsOf
            rw [List.map_map]
            rfl
          rw [esp] at eD1
          have smem := fun a => @spots_mem (fd', done) i a
          have s45 := s4.trans s5
          have eF5 := s5 _ _ eF
          have hvs5 := dpa_same (same_dels s5 F) hvs
          -- if spots == []
          refine ⟨_, rfl, (by show 0 ≤ sizeLine; decide), fun p hp => ?_⟩
          have s6 : Same H5 (upd H5 p (.lst [])) := same_upd hp
          have dsp : Dp K (upd H5 p (.lst [])) (.ref D1) (dL ((spotsOf (fd', done) i).map fun (a : Nat) => (a : Int))) := dp_L (.of (by rw [s6 _ _ eD1, List.map_map]; rfl))
          refine ⟨_, .list [], dsp, .lst (.of upd_same) .nil, shaped_L _, shaped_nil, _, rfl, ?_⟩
          rw [eqv_nil]
          have s456 := s45.trans s6
          have eF6 := s6 _ _ eF5
          have eD6 := s6 _ _ eD1
          have hvs6 := dpa_same (same_dels s6 F) hvs5
          generalize upd H5 p (.lst []) = H6 at s456 eF6 eD6 hvs6
          unfold lawStep
          generalize hsp : spotsOf (fd', done) i = sp at eD6 smem
          cases sp with
          | nil => exact iteT ⟨s456, F, _, _, _, _, _, _, _, hF, ⟨vs, eF6, hvs6⟩, rfl⟩
          | cons a0 sp' =>
            refine iteF ?_
            obtain ⟨m1, m2, m3⟩ := smem a0 List.mem_cons_self
            have m2 : a0 < fd'.length := m2
            have m3 : (fd'.getD a0 []).getD i 0 ≠ 0 := m3
            obtain ⟨b, eb, hb⟩ := RL.get hvs6 m2
            have okL := rowsOk a0 m2
            -- lead = found.pop(spots[0])
            refine ⟨_, rfl, .inl ⟨rfl, _, .of eF6⟩, _, rfl, D1, _, 0, .int (a0 : Nat), rfl, rfl, .of eD6, atI_nat (j := 0) rfl, F, vs, (a0 : Int), a0, .ref b, rfl, rfl, eF6, by omega, by omega, seqIndex_of (by omega) (by omega), eb, ?_⟩
            have s7 : Same H (upd H6 F (.lst (vs.eraseIdx a0))) := same_over hF s456
            have hvs7 : DpAll K (del (upd H6 F (.lst (vs.eraseIdx a0))) F) (vs.eraseIdx a0) ((fd'.eraseIdx a0).map dL) := by
              rw [del_upd, map_erase]
              exact dpa_erase a0 hvs6
            have eF7 : upd H6 F (.lst (vs.eraseIdx a0)) F = some (.lst (vs.eraseIdx a0)) := upd_same
            have hb7 : SqL K (upd H6 F (.lst (vs.eraseIdx a0))) b ((fd'.getD a0 []).map V.int) := by
              have z : Same (del H6 F) (upd H6 F (.lst (vs.eraseIdx a0))) := by
                intro b o e
                have nb : b ≠ F := fun z => by rw [z, del_at] at e; cases e
                rw [upd_ne nb]
                exact same_del _ _ e
              exact z.seq hb
            dsimp only [gName]
            generalize upd H6 F (.lst (vs.eraseIdx a0)) = H7 at s7 hvs7 eF7 hb7 ⊢
            -- times
            obtain ⟨x0, x1⟩ := getD_row c0 okL i
            have inv := isInv_of hc x0 x1 m3
            generalize hLr : fd'.getD a0 [] = Lr at *
            generalize hk : invOf c (Lr.getD i 0) = kk at inv
            obtain ⟨i0, i1, i2, i3⟩ := inv
            refine ⟨_, rfl, 1, c, rfl, by omega, fun D2 hD2 => ?_⟩
            refine lc_filt (walk_range (lo := 1) (n := (c - 1).toNat)) (fun j => decide ((1 + (j : Int)) * Lr.getD i 0 % c = 1)) (fun j => .int (1 + (j : Int))) hD2 (by omega) (fun _ _ => trivial) (fun j u Hc Hd N N0 hj s8 _ y k1 k0 => ?_) (fun H8 s8 eD2 => ?_)
            · obtain ⟨rfl, rfl⟩ := y
              have hb8 := s8.seq hb7
              refine ⟨rfl, _, rfl, _, rfl, _, rfl, b, _, _, _, rfl, rfl, hb8, atI_nat (map_int_get Lr (by rw [okL.1]; exact hin)), _, _, rfl, rfl, .inl ⟨by omega, by omega⟩, .inl ⟨_, rfl, _, rfl, _, _, rfl, rfl, c0, rfl, _, rfl, ?_⟩⟩
              by_cases hz : (1 + (j : Int)) * Lr.getD i 0 % c = 1
              · have ez : decide (V.int ((1 + (j : Int)) * Lr.getD i 0 % c) = V.int 1) = true := by rw [hz]; simp
                rw [ez]
                exact iteT ⟨_, rfl, k1 (decide_eq_true hz) _ (Same.refl _)⟩
              · have ez : decide (V.int ((1 + (j : Int)) * Lr.getD i 0 % c) = V.int 1) = false := decide_eq_false fun z => hz (V.int.inj z)
                rw [ez]
                exact iteF (k0 (decide_eq_false hz) _ (Same.refl _))
            · have ff := filter_first (p := fun j => decide ((1 + (j : Int)) * Lr.getD i 0 % c = 1)) (n := (c - 1).toNat) (i := (kk - 1).toNat) (by omega)
                (decide_eq_true (by rw [show (1 + (((kk - 1).toNat : Nat) : Int)) = kk by omega, Int.mul_comm]; exact i2))
                (fun j hj => decide_eq_false fun z => i3 (1 + (j : Int)) (by omega) (by omega) (by rw [Int.mul_comm]; exact z))
              have ix : ((((List.range (c - 1).toNat).filter fun (j : Nat) => decide ((1 + (j : Int)) * Lr.getD i 0 % c = 1)).map fun (j : Nat) => V.int (1 + (j : Int))))[0]? = some (.int kk) := by
                rw [List.getElem?_map, ff]
                show some (V.int (1 + (((kk - 1).toNat : Nat) : Int))) = _
                rw [show (1 + (((kk - 1).toNat : Nat) : Int)) = kk by omega]
              refine ⟨D2, _, 0, .int kk, rfl, rfl, .of eD2, atI_nat (j := 0) ix, ?_⟩
              have s78 := s7.trans s8
              have eF8 := s8 _ _ eF7
              have hvs8 := dpa_same (same_dels s8 F) hvs7
              have hb8 := s8.seq hb7
              -- lead = [times * number % clock for number in lead]
              refine ⟨_, rfl, b, rfl, ⟨_, hb8⟩, fun D3 hD3 => ?_⟩
              refine lc_val (walk_list (xs := Lr.map V.int)) (fun j => .int (kk * Lr.getD j 0 % c)) hD3 (by rw [List.length_map, okL.1]; omega) (fun H' z => z.seq hb8) (fun j u Hc Hd N hj s9 _ y k1 => ?_) (fun H9 s9 eD3 => ?_)
              · obtain ⟨rfl, hu⟩ := y
                obtain ⟨m, hm', rfl⟩ := int_get hu
                have z := k1 Hd (Same.refl _)
                rw [getD_of hm'] at z
                exact ⟨rfl, _, rfl, _, rfl, kk, m, rfl, rfl, .inl ⟨by omega, by omega⟩, .inl ⟨_, rfl, _, rfl, _, _, rfl, rfl, c0, z⟩⟩
              · have zN := map_range_getD Lr 0 fun x => V.int (kk * x % c)
                have eN : H9 D3 = some (.lst ((timesOf c kk Lr).map V.int)) := by
                  rw [eD3, List.length_map, zN]
                  unfold timesOf
                  rw [List.map_map]
                  rfl
                have okN : RowOk c n (timesOf c kk Lr) := times_ok c0 okL.1
                have s79 := s78.trans s9
                have eF9 := s9 _ _ eF8
                have hvs9 := dpa_same (same_dels s9 F) hvs8
                have elv9 : (vs.eraseIdx a0).length = (fd'.eraseIdx a0).length := by rw [dpa_length hvs9, List.length_map]
                have len9 : (fd'.eraseIdx a0).length = fd'.length - 1 := by rw [List.length_eraseIdx, if_pos m2]
                -- found = [less(clock, row, lead, place) for row in found]
                refine ⟨_, rfl, F, rfl, ⟨_, .of eF9⟩, fun G hG => ?_⟩
                refine lc_data (K := K) (walk_list (xs := vs.eraseIdx a0)) (fun j => dL (clr c ((fd'.eraseIdx a0).getD j []) (timesOf c kk Lr) i)) hG (by omega) (fun H' z => .of (z _ _ eF9)) (fun j u Hc Hd N hj s10 hacc y k1 => ?_) (fun H10 xs10 s10 eG hxs10 => ?_)
                · obtain ⟨rfl, hu⟩ := y
                  obtain ⟨row, hrow, d⟩ := row_get hvs9 hu
                  obtain ⟨b2, rfl, hb2⟩ := dp_L' d
                  obtain ⟨acc, hacc⟩ := hacc
                  have okr : RowOk c n row := lok.row row (List.mem_of_mem_eraseIdx (List.mem_of_getElem? hrow))
                  refine ⟨rfl, _, rfl, _, rfl, _, rfl, _, rfl, c, n, b2, row, D3, _, i, rfl, s10.seq (same_del.seq hb2), .of (s10 _ _ eN), hc, okr, okN.1, hin, by omega, fun H11 p11 s11 np11 e11 => k1 _ _ s11 ?_⟩
                  rw [List.getD_eq_getElem?_getD, hrow]
                  have nG : p11 ≠ G := fun z => by rw [z, hacc] at np11; cases np11
                  exact dp_L (.of (by rw [del_ne nG]; exact e11))
                · have z10 := map_range_getD (fd'.eraseIdx a0) [] fun r => dL (clr c r (timesOf c kk Lr) i)
                  rw [elv9, z10] at hxs10
                  have hxs10' : DpAll K (del H10 G) xs10 (((fd'.eraseIdx a0).map fun r => clr c r (timesOf c kk Lr) i).map dL) := by
                    rw [List.map_map]
                    exact hxs10
                  have elx : xs10.length = (fd'.eraseIdx a0).length := by rw [dpa_length hxs10, List.length_map]
                  have hGH : H G = none := by
                    cases z : H G with
                    | none => rfl
                    | some o =>
                      have := s79 _ _ z
                      rw [hG] at this
                      cases this
                  -- found.insert(done, lead)
                  refine ⟨_, rfl, .inl ⟨rfl, _, .of eG⟩, _, rfl, _, rfl, G, xs10, (done : Int), .ref D3, rfl, rfl, eG, by omega, by omega, by omega, ?_⟩
                  have tnd : ((done : Int)).toNat = done := by omega
                  rw [tnd]
                  have s11 : Same H (upd H10 G (.lst (xs10.take done ++ [.ref D3] ++ xs10.drop done))) := same_over hGH (s79.trans s10)
                  have nDG : D3 ≠ G := ne_of_none eN hG
                  have eN10 := s10 _ _ eN
                  have rl11 : RL K (upd H10 G (.lst (xs10.take done ++ [.ref D3] ++ xs10.drop done))) G (((fd'.eraseIdx a0).map fun r => clr c r (timesOf c kk Lr) i).take done ++ [timesOf c kk Lr] ++ ((fd'.eraseIdx a0).map fun r => clr c r (timesOf c kk Lr) i).drop done) := by
                    refine ⟨_, upd_same, ?_⟩
                    rw [del_upd, List.map_append, List.map_append, List.map_take, List.map_drop]
                    exact dpa_app (dpa_drop done hxs10') (dpa_app (.cons (dp_L (.of (by rw [del_ne nDG]; exact eN10))) .nil) (dpa_take done hxs10'))
                  refine ⟨_, rfl, _, _, rfl, rfl, s11, G, _, _, _, _, _, _, _, hGH, ?_, rfl⟩
                  · show RL K _ G ((restRows c (fd', done) i a0).take done ++ [leadRow c (fd', done) i a0] ++ (restRows c (fd', done) i a0).drop done)
                    have eL : leadRow c (fd', done) i a0 = timesOf c kk Lr := by
                      show timesOf c (invOf c ((fd'.getD a0 []).getD i 0)) (fd'.getD a0 []) = _
                      rw [hLr, hk]
                    unfold restRows
                    rw [eL]
                    exact rl11
      · rintro σ Ha ⟨s4, F, x4, x5, x6, x7, x8, x9, x10, hF, ⟨vs, eF, hvs⟩, rfl⟩
        have lok := lawRun_ok (rs := rs) hc hok (rs.headD []).length
        have eres : lawLeast c rs = (lawRun c rs (rs.headD []).length).1.take (lawRun c rs (rs.headD []).length).2 := rfl
        generalize lawRun c rs (rs.headD []).length = st at lok hvs eres ⊢
        obtain ⟨fd', done⟩ := st
        have llen : fd'.length = rs.length := lok.len
        have ldone : done ≤ rs.length := lok.le
        have elv : vs.length = fd'.length := by rw [dpa_length hvs, List.length_map]
        -- tuple([tuple(row) for row in found[:done]])
        refine ⟨_, rfl, _, rfl, (done : Int), rfl, F, vs, rfl, .of eF, fun p hp => ?_⟩
        have ecut : cutV vs none (some (done : Int)) = vs.take done := by
          unfold cutV
          rw [HT.sIx_none, HT.sIx_nat, List.drop_zero, Nat.sub_zero]
          rw [show min done vs.length = done by omega]
        rw [ecut]
        have s5 : Same Ha (upd Ha p (.lst (vs.take done))) := same_upd hp
        have hv5 : DpAll K (upd Ha p (.lst (vs.take done))) (vs.take done) ((fd'.take done).map dL) := by
          rw [List.map_take]
          exact dpa_same (same_del.trans s5) (dpa_take done hvs)
        have e5 : upd Ha p (.lst (vs.take done)) p = some (.lst (vs.take done)) := upd_same
        generalize upd Ha p (.lst (vs.take done)) = H5 at s5 hv5 e5 ⊢
        have lt5 : (vs.take done).length = (fd'.take done).length := by rw [dpa_length hv5, List.length_map]
        have lt6 : (fd'.take done).length ≤ 1000 := by rw [List.length_take]; omega
        refine ⟨p, rfl, ⟨_, .of e5⟩, fun D9 hD9 => ?_⟩
        refine lc_frz (K := K) (walk_list (xs := vs.take done)) (fun j => dT ((fd'.take done).getD j [])) hD9 (by omega) (fun H' z => .of (z _ _ e5)) (fun j u Hc Hd N hj s10 hacc y k1 => ?_) (fun H10 xs10 s10 eG hxs10 fz10 => ?_)
        · obtain ⟨rfl, hu⟩ := y
          obtain ⟨row, hrow, d⟩ := row_get (dpa_same s10 hv5) hu
          obtain ⟨b2, rfl, hb2⟩ := dp_L' d
          obtain ⟨acc, hacc⟩ := hacc
          rw [List.getD_eq_getElem?_getD, hrow] at k1
          refine ⟨rfl, _, rfl, b2, _, rfl, hb2, fun T o hT ho => ?_⟩
          have nT : T ≠ D9 := fun z => by rw [z, hacc] at hT; cases hT
          refine k1 _ _ (same_upd hT) (dp_T (.inl (.inr ⟨o, ?_⟩))) ⟨T, o, row.map V.int, rfl, ?_, ho⟩
          · rw [del_ne nT]
            exact upd_same
          · rw [del_ne nT]
            exact upd_same
        · have z10 := map_range_getD (fd'.take done) [] dT
          rw [lt5, z10] at hxs10
          refine ⟨D9, xs10, rfl, .inl ⟨.of eG, fun p2 hp2 => q _ _ (((s4.trans s5).trans s10).trans (same_upd hp2)) ⟨p2, xs10, rfl, .of upd_same, ?_, fun u hu => (fz10 u hu).same (same_del.trans (same_upd hp2))⟩⟩⟩
          rw [← lawLeast_eq hc hok, eres]
          exact dpa_same (same_del.trans (same_upd hp2)) hxs10
    · cases rs with
      | nil => exact (by decide : (0 : Nat) < 2 ^ 62)
      | cons r0 rs' =>
        show r0.length < 2 ^ 62
        rw [(hok r0 List.mem_cons_self).1]
        omega
    · -- len(rows[0]) if rows != [] else 0
      intro Q0 rest
      have s2a := s2.seq ha
      obtain ⟨ds, hds, l1, l2⟩ := rows_dat (Paired.mapP pr fun _ _ => RowV.same s2)
      refine ⟨_, rfl, (by show 0 ≤ sizeLine; decide), fun p hp => ?_⟩
      have s6 : Same H2 (upd H2 p (.lst [])) := same_upd hp
      refine ⟨.list ds, .list [], .lst (s6.seq s2a) (dpa_same s6 hds), .lst (.of upd_same) .nil, shaped_lst l1 l2, shaped_nil, _, rfl, ?_⟩
      rw [eqv_nil]
      cases rs with
      | nil =>
        cases pr
        cases hds
        exact iteF (rest _ s6)
      | cons r0 rs' =>
        cases pr with
        | cons rv rt =>
          cases hds with
          | cons d1 d2 =>
            refine iteT ?_
            obtain ⟨b, rfl, hb⟩ := rv
            have s26 := s2.trans s6
            refine ⟨_, rfl, a, _, 0, .ref b, rfl, rfl, s26.seq ha, atI_nat (j := 0) rfl, b, _, rfl, hb.elim (fun z => .inl (s26.seq z)) (fun z => .inr (same_tup s26 z)), ?_⟩
            rw [List.length_map]
            exact rest _ s6
end
end K61

set_option Elab.async false
set_option linter.all false
set_option maxRecDepth 100000
set_option maxHeartbeats 4000000
/-! The walks: the law's own upright rows. -/
namespace K61
open PySem PySem.Spec PyProof.Rows L2
abbrev s_Lupright : Stmt := top 70
abbrev N_Lupright : List Str := ["_law_clock", "_law_size", "_law_rows_here", "_law_form", "_law_found", "_law_leads", "_law_place", "_law_row", "_law_lead", "_law_each", "_law_at"]
theorem sc_Lupright : FnScope N_Lupright ["_law_clock", "_law_size", "_law_rows_here"] (defScope s_Lupright) := ⟨rfl, rfl, rfl, by decide +kernel, rfl, by decide +kernel, by decide +kernel⟩
def sp_Lupright (K : PySem.W.Frag) : Sp := fun vs H Q _ => ∃ (c : Int) (n : Nat) (x : V) (rs : List (List Int)), vs = [.int c, .int n, x] ∧ LRows K H x rs ∧ Clock c ∧ (∀ r ∈ rs, RowOk c n r) ∧ n ≤ 1000 ∧ rs.length ≤ 1000 ∧ ∀ (H' : Hp) (v : V), Same H H' → Dp K H' v (dTT (leastIn c (upRows c n (formOf c rs)))) → Q v H'
theorem take_snoc' {α : Type} {l : List α} {i : Nat} {x : α} (h : l[i]? = some x) : l.take (i + 1) = l.take i ++ [x] := by
  rw [List.take_add_one, h]
  rfl
section
variable {P : Program} {w : World} {K : PySem.W.Frag} {mg : Str → Option Value} {base : Heap} {f : Addr} {fd : FuncData}
theorem ok_Lupright (B : Bi mg) (c__law_least : Cal P w K mg base CX0 2 "_law_least" ["_law_clock", "_law_rows_here"] [] (sp_Lleast K)) (F : FnP K "_law_upright" s_Lupright f fd) : FnOk P w K mg base CX0 3 f fd ["_law_clock", "_law_size", "_law_rows_here"] (sp_Lupright K) := by
  have nd := sc_Lupright.nd
  refine okN F sc_Lupright (fun vs H Q E h => by obtain ⟨c, n, x, rs, rfl, _⟩ := h; rfl) (fun cdv A outer s H vs Q E hr h => ?_)
  have hr__law_least := hr
  refine ⟨_, (pss_cons (ps_par (i := 3) (j := 4) rfl nd rfl rfl (by decide) rfl rfl (pa_cons (e_call c__law_least hr__law_least pass0 (pa_cons (pv 0) (pa_cons (pv 2) pa_nil))) (pa_cons (pe_lst pa_nil) pa_nil)) rfl)
      (pss_cons (ps_asg (pe_lc (own := [("_law_row", 7)]) rfl nd (pi_tup (pv 3)) (blkOk_by (N := N_Lupright) (sc := (defScope s_Lupright)) (by decide +kernel)) (fun _ _ _ _ _ => by exact (pgn 7 nd)) (fun _ _ _ _ _ => by exact pts_nil) (fun _ _ _ _ _ => by exact (kBMF PySem.F.plainAttrs_tuple PySem.F.slot_tuple_index PySem.F.type_tuple_index (kTix K) (pv 7) (pa_cons pe_int pa_nil)))) (pgn 5 nd))
      (pss_cons (ps_for PassesOwn.never rfl (pi_list (pe_lc (own := [("_law_at", 10)]) rfl nd (pi_range1 rfl B.range (pa_cons (pv 1) pa_nil)) (blkOk_by (N := N_Lupright) (sc := (defScope s_Lupright)) (by decide +kernel)) (fun _ _ _ _ _ => by exact (pgn 10 nd)) (fun _ _ _ _ _ => by exact (pts_one (pt_cmpR (kNotIn K) (pv 10) (pv 5) rfl))) (fun _ _ _ _ _ => by exact (pv 10)))) (pgn 6 nd)
      (pss_cons (ps_setLc (i := 7) (own := [("_law_at", 10)]) rfl nd rfl rfl (sw_true rfl rfl rfl (by decide +kernel)) (pi_range1 rfl B.range (pa_cons (pv 1) pa_nil)) (blkOk_by (N := N_Lupright) (sc := (defScope s_Lupright)) (by decide +kernel)) (fun _ _ _ _ _ => by exact (pgn 10 nd)) (fun _ _ _ _ _ => by exact pts_nil) (fun _ _ _ _ _ => by exact (pe_callTy call_int1 rfl B.int bt_int (pa_cons (pe_cmpR op_eq (pv 10) (pv 6) (nomark _)) pa_nil))))
      (pss_cons (ps_for PassesOwn.never rfl (pi_zipM rfl B.zip (pa_cons (pv 5) (pa_cons (pv 3) pa_nil))) (pg_tup rfl (pgs_cons (pgn 8 nd) (pgs_cons (pgn 9 nd) pgs_nil)))
      (pss_one (ps_asg (pe_op op_mod (pe_callTy call_int1 rfl B.int bt_int (pa_cons (pe_un un_neg (pe_ix (kIxT K) (pv 9) (pv 6) (fun _ _ => rfl))) pa_nil)) (pv 0)) (pg_sub (pv 7) (pv 8) set_list))))
      (pss_one (ps_expr (pe_bm PySem.F.plainAttrs_list PySem.F.slot_list_append PySem.F.type_list_append mt_append (pv 4) (pa_cons (pv 7) pa_nil)))))))
      (pss_one (ps_ret (e_call c__law_least hr__law_least pass0 (pa_cons (pv 0) (pa_cons (pv 4) pa_nil)))))))), ?_⟩
  obtain ⟨c, n, x, rs, rfl, hx, hc, hok, hn, hm, q⟩ := h
  have c0 := hc.pos
  have c1 := hc.le
  have n62 : (n : Int) < 2 ^ 62 := by omega
  have tn : ((n : Int)).toNat = n := by omega
  refine ⟨_, rfl, _, rfl, c, n, x, rs, rfl, hx, hc, hok, hn, hm, fun H1 vF s1 hfz => ⟨(by show 0 ≤ sizeLine; decide), fun p hp => ⟨_, _, rfl, ?_⟩⟩⟩
  have hF := formOf_red hc hok
  have hfz' : FrzRows K H1 vF ((formOf c rs).map (·.2)) := hfz
  generalize formOf c rs = F at hF hfz' q
  obtain ⟨aF, us, rfl, haF, hus, hfu⟩ := hfz'
  have el : us.length = F.length := by rw [dpa_length hus, List.length_map, List.length_map]
  have s2 : Same H1 (upd H1 p (.lst [])) := same_upd hp
  have ep : upd H1 p (.lst []) p = some (.lst []) := upd_same
  generalize upd H1 p (.lst []) = H2 at s2 ep
  have lF : F.length ≤ 1000 := Nat.le_trans hF.len hn
  -- leads
  refine ⟨_, rfl, aF, rfl, ⟨_, same_tup s2 haF⟩, fun D hD => ?_⟩
  refine lc_val (walk_tup (xs := us)) (fun i => .int ((F.getD i (0, [])).1 : Nat)) hD (by rw [el]; exact Nat.le_trans lF (by decide)) (fun H' z => same_tup (s2.trans z) haF) (fun i u Ha Hb N hi s4 hacc y k => ?_) (fun H3 s3 eL => ?_)
  · obtain ⟨rfl, hu⟩ := y
    obtain ⟨row, hrow, hd⟩ := row_get (dpa_same (s2.trans s4) hus) hu
    obtain ⟨b, rfl, hb⟩ := dp_T' hd
    rw [List.getElem?_map] at hrow
    cases e : F[i]? with
    | none =>
      rw [e] at hrow
      cases hrow
    | some pp =>
      rw [e] at hrow
      cases hrow
      have pm : pp ∈ F := List.mem_of_getElem? e
      have z := k Hb (Same.refl _)
      rw [List.getD_eq_getElem?_getD, e] at z
      have hlt : pp.1 < pp.2.length := by rw [(hF.row pp pm).1]; exact hF.lt pp pm
      refine ⟨rfl, _, rfl, (hfu _ (List.mem_of_getElem? hu)).same (s2.trans s4), b, pp.2, 1, pp.1, rfl, rfl, hb, ?_, fun m hm => ?_, z⟩
      · rw [some_getD hlt, hF.red pp pm pp pm, if_pos rfl]
      · rw [some_getD (by omega), hF.low pp pm m hm]
        intro z
        cases z
  · have z := map_range_getD F (0, []) fun p : Nat × List Int => V.int (p.1 : Nat)
    rw [el, z] at eL
    have ep3 := s3 _ _ ep
    have haF3 := same_tup (s2.trans s3) haF
    have hus3 := dpa_same (s2.trans s3) hus
    have nLp : p ≠ D := ne_of_none ep hD
    have s23 := s2.trans s3
    -- for place in [at for at in range(size) if at not in leads]
    refine ⟨_, rfl, (n : Int), rfl, by omega, n62, fun D2 hD2 => ?_⟩
    rw [tn]
    refine lc_filt (walk_r0 (n := n)) (fun a => !isLead F a) (fun a => .int (a : Nat)) hD2 (Nat.le_trans hn (by decide)) (fun _ _ => trivial) (fun i u Hc Hd N N0 hi s4 _ y k1 k0 => ?_) (fun H4 s4 eP => ?_)
    · obtain ⟨rfl, rfl⟩ := y
      have einv : inV (.int (i : Int)) (F.map fun p => V.int (p.1 : Nat)) = isLead F i := by
        unfold inV isLead
        rw [List.any_map]
        refine congrArg (List.any F) ?_
        funext p
        show eqV (.int (p.1 : Nat)) (.int (i : Int)) = decide (p.1 = i)
        simp [eqV, Bool.beq_eq_decide_eq]
        omega
      refine ⟨rfl, _, rfl, _, rfl, D, _, rfl, .inl (.of (s4 _ _ eL)), rfl, by simp [flatV], ?_⟩
      rw [einv]
      cases e : isLead F i with
      | true => exact ⟨false, rfl, iteF (k0 (by rw [e]; rfl) _ (Same.refl _))⟩
      | false => exact ⟨true, rfl, iteT ⟨_, rfl, k1 (by rw [e]; rfl) _ (Same.refl _)⟩⟩
    · generalize hpl : (List.range n).filter (fun a => !isLead F a) = pl at eP
      have eq0 : upRows c n F = pl.map (upRow c n F) := by
        unfold upRows
        rw [hpl]
      have lpl : pl.length ≤ n := by
        rw [← hpl]
        exact Nat.le_trans (List.length_filter_le _ _) (by rw [List.length_range]; exact Nat.le_refl _)
      have mpl : ∀ a ∈ pl, a < n := fun a ha => by
        rw [← hpl] at ha
        exact List.mem_range.mp (List.mem_filter.mp ha).1
      have s234 := s23.trans s4
      have ep4 := s4 _ _ ep3
      have eL4 := s4 _ _ eL
      refine ⟨_, rfl, ⟨_, .of eP⟩, ?_⟩
      refine for_it (walk_list (xs := pl.map fun a => V.int (a : Nat))) (fun i σ H' => Same H1 H' ∧ RL K H' p ((pl.take i).map (upRow c n F)) ∧ H' D = some (.lst (F.map fun p => V.int (p.1 : Nat))) ∧ H' D2 = some (.lst (pl.map fun a => V.int (a : Nat))) ∧ ∃ x6 x7 x8 x9 x10, σ = [some (.int c), some (.int n), some x, some (.ref aF), some (.ref p), some (.ref D), x6, x7, x8, x9, x10])
        ⟨s234, ⟨[], ep4, .nil⟩, eL4, eP, _, _, _, _, _, rfl⟩ (fun i σ H' _ z => .of z.2.2.2.1) ?_ ?_
      · rintro i u σ Ha Hb hi ⟨s5, ⟨acc, eacc, hacc⟩, eD, eD2, x6, x7, x8, x9, x10, rfl⟩ ⟨rfl, hu⟩
        obtain ⟨at', hat, rfl⟩ : ∃ at' : Nat, pl[i]? = some at' ∧ u = V.int (at' : Nat) := by
          rw [List.getElem?_map] at hu
          cases e : pl[i]? with
          | none => rw [e] at hu; cases hu
          | some z =>
            rw [e] at hu
            exact ⟨z, rfl, (Option.some.inj hu).symm⟩
        have lat : at' < n := mpl at' (List.mem_of_getElem? hat)
        have lacc : acc.length ≤ i := by
          rw [dpa_length hacc, List.length_map, List.length_map, List.length_take]
          omega
        have li : i < n := by
          rw [List.length_map] at hi
          omega
        refine ⟨_, rfl, (n : Int), rfl, by omega, n62, fun R hR => ?_⟩
        rw [tn]
        refine lc_val (walk_r0 (n := n)) (fun pl => .int (if pl = at' then 1 else 0)) hR (Nat.le_trans hn (by decide)) (fun _ _ => trivial) (fun j u Hc Hd N hj s6 _ y k => ?_) (fun H6 s6 e6 => ?_)
        · obtain ⟨rfl, rfl⟩ := y
          have z := k Hd (Same.refl _)
          refine ⟨rfl, _, rfl, _, rfl, rfl, .inr ⟨_, rfl, ?_⟩⟩
          by_cases hji : j = at'
          · rw [if_pos hji] at z
            rw [hji, decide_eq_true rfl]
            exact z
          · rw [if_neg hji] at z
            have e0 : decide (V.int (j : Int) = V.int (at' : Int)) = false := by simp; omega
            rw [e0]
            exact z
        · -- for lead, each in zip(leads, form): row[lead] = int(-each[place]) % clock
          have eD6 := s6 _ _ eD
          have haF6 := same_tup (s23.trans (s4.trans (Same.refl _))) haF
          have hF6 : SqT K H6 aF us := same_tup (s5.trans s6) haF
          have nRp : p ≠ R := ne_of_none eacc hR
          have nRD : D ≠ R := ne_of_none eD hR
          have nRD2 : D2 ≠ R := ne_of_none eD2 hR
          refine ⟨_, rfl, _, rfl, D, aF, _, _, rfl, .of eD6, hF6, ?_⟩
          refine for_it (walk_zipM (xs := F.map fun p => V.int (p.1 : Nat)) (ys := us) (n := F.length) (by rw [List.length_map, el, Nat.min_self])) (fun j σ H' => Same (del H6 R) (del H' R) ∧ H' R = some (.lst (((F.take j).foldl (fun row p => row.set p.1 (-(p.2.getD at' 0) % c)) ((List.range n).map fun pl => if pl = at' then 1 else 0)).map V.int)) ∧ ∃ x8 x9 x10, σ = [some (.int c), some (.int n), some x, some (.ref aF), some (.ref p), some (.ref D), some (.int at'), some (.ref R), x8, x9, x10])
            ⟨Same.refl _, ?_, _, _, _, rfl⟩ (fun j σ H' _ z => ?_) ?_ ?_
          · rw [e6, List.take_zero, List.foldl_nil, List.map_map]
            refine congrArg (fun l => some (HO.lst l)) (List.map_congr_left fun pl _ => ?_)
            show V.int (if pl = at' then 1 else 0) = V.int (if pl = at' then 1 else 0)
            rfl
          · have s7 : Same Hb H' := (same_under s6 hR).trans (z.1.trans same_del)
            exact ⟨.of (s7 _ _ eD), same_tup (s5.trans s7) haF⟩
          · rintro j u σ Hc Hd hj ⟨s7, eR, y8, y9, y10, rfl⟩ ⟨T, u1, u2, rfl, hT, rfl, g1, g2⟩
            have s7' : Same Hb Hc := (same_under s6 hR).trans (s7.trans same_del)
            obtain ⟨row, hrow, hd⟩ := row_get (dpa_same (s5.trans s7') hus) g2
            obtain ⟨a2, rfl, ha2⟩ := dp_T' hd
            have g1 : (F.map fun p => V.int (p.1 : Nat))[j]? = some u1 := g1
            rw [List.getElem?_map] at hrow g1
            cases epp : F[j]? with
            | none =>
              rw [epp] at hrow
              cases hrow
            | some pp =>
              rw [epp] at hrow g1
              cases hrow
              cases g1
              have pm : pp ∈ F := List.mem_of_getElem? epp
              have okp := hF.row pp pm
              have hlt := hF.lt pp pm
              have nTR : T ≠ R := fun z => by rw [z, eR] at hT; cases hT
              have sT : Same Hc (upd Hc T (.tup [V.int (pp.1 : Nat), .ref a2])) := same_upd hT
              have eR1 := sT _ _ eR
              have llen : ((F.take j).foldl (fun row p => row.set p.1 (-(p.2.getD at' 0) % c)) ((List.range n).map fun pl => if pl = at' then 1 else 0)).length = n := by rw [upRow_len, List.length_map, List.length_range]
              refine ⟨T, _, rfl, .of upd_same, rfl, _, _, rfl, _, _, rfl, rfl, ?_⟩
              refine ⟨_, rfl, _, rfl, a2, _, _, _, rfl, rfl, same_tup sT ha2, atI_nat (map_int_get pp.2 (by rw [okp.1]; exact lat)), _, rfl, .inl ⟨_, rfl, _, rfl, _, _, rfl, rfl, c0, ?_⟩⟩
              refine ⟨_, rfl, _, rfl, R, _, _, pp.1, rfl, rfl, eR1, ?_, ?_, ?_, _, _, _, rfl⟩
              · unfold ixN
                rw [List.length_map, llen, if_pos (by omega), if_pos (by omega)]
                rfl
              · rw [del_upd]
                exact s7.trans (same_dels sT R)
              · rw [upd_same, take_snoc' epp, List.foldl_append, List.foldl_cons, List.foldl_nil, List.map_set]
          · rintro σ Hc ⟨s7, eR, y8, y9, y10, rfl⟩
            rw [List.take_length] at eR
            have s7' : Same Hb Hc := (same_under s6 hR).trans (s7.trans same_del)
            have accC : Hc p = some (.lst acc) := s7' _ _ eacc
            refine ⟨_, rfl, .inl ⟨rfl, _, .of accC⟩, _, rfl, p, acc, _, rfl, rfl, accC, Nat.lt_of_le_of_lt lacc (Nat.lt_of_lt_of_le li (Nat.le_trans hn (by decide))), ?_, ⟨_, upd_same, ?_⟩, ?_, ?_, _, _, _, _, _, rfl⟩
            · intro b o e
              have z := s7' _ _ (s5 _ _ e)
              have nb : b ≠ p := fun y => by
                rw [y, hp] at e
                cases e
              rw [upd_ne nb]
              exact z
            · rw [del_upd, take_snoc' hat, List.map_append, List.map_append]
              refine dpa_app (.cons ?_ .nil) (dpa_same (same_dels s7' p) hacc)
              exact dp_L (.of (by rw [del_ne (Ne.symm nRp)]; exact eR))
            · rw [upd_ne (Ne.symm nLp)]
              exact s7' _ _ eD
            · rw [upd_ne (ne_of_none ep3 hD2).symm]
              exact s7' _ _ eD2
      · rintro σ Ha ⟨s5, rl, eD, eD2, x6, x7, x8, x9, x10, rfl⟩
        have e1 : (pl.take (pl.map fun a => V.int (a : Nat)).length).map (upRow c n F) = upRows c n F := by
          rw [List.length_map, List.take_length, eq0]
        rw [e1] at rl
        refine ⟨_, rfl, _, rfl, c, n, _, _, rfl, rl.lrows, hc, upRows_ok hc, hn, ?_, fun H' v s6 h6 => q _ _ ((s1.trans s5).trans s6) h6.dp⟩
        exact Nat.le_trans (upRows_len c n F) hn
end
end K61

set_option Elab.async false
set_option linter.all false
set_option maxRecDepth 100000
set_option maxHeartbeats 4000000
/-! The walks: the law's own fair rows. -/
namespace K61
open PySem PySem.Spec PyProof.Rows L2
abbrev s_Lfair : Stmt := top 71
abbrev N_Lfair : List Str := ["_law_clock", "_law_many", "_law_rows_here", "_law_found", "_law_row", "_law_number", "_law_at"]
theorem sc_Lfair : FnScope N_Lfair ["_law_clock", "_law_many", "_law_rows_here"] (defScope s_Lfair) := ⟨rfl, rfl, rfl, by decide +kernel, rfl, by decide +kernel, by decide +kernel⟩
def sp_Lfair (K : PySem.W.Frag) : Sp := fun vs H Q _ => ∃ (c : Int) (m : Nat) (x : V) (rs : List (List Int)), vs = [.int c, .int m, x] ∧ LRows K H x rs ∧ Clock c ∧ (∀ r ∈ rs, RowOk c m r) ∧ 1 ≤ m ∧ m ≤ 100 ∧ rs.length ≤ 100 ∧ ∀ (H' : Hp) (v : V), Same H H' → FrzRows K H' v (leastIn c (lawFair c m rs)) → Q v H'
theorem ne_of_none' {H : Hp} {a b : Addr} {o : HO} (h : H a = some o) (hb : H b = none) : b ≠ a := fun z => by rw [z, h] at hb; cases hb
/-- every turn gives a new list of known items -/
theorem lc_lsts {J : It} {n : Nat} {G : Hp → Prop} {Y : Nat → Hp → V → Hp → Prop} (w : Walk J n G Y) {g : TG} {te : TE} {vs : List Nat} {σ : L2.St} {H1 : Hp} {D : Addr} {Qd : Hp → Prop} (f : Nat → List V) (hD : H1 D = none) (hn : n ≤ sizeLine)
    (hG : ∀ H, Same H1 H → G H)
    (hs : ∀ i x H H' (N : V → Hp → Prop), i < n → Same H1 H → (∃ acc, H D = some (.lst acc)) → Y i H x H' → (∀ p H4, Same H H4 → del H4 D p = some (.lst (f i)) → N (.ref p) H4) → g x (wipe σ vs) H' fun σ2 H2 => wipe σ2 vs = wipe σ vs ∧ te σ2 H2 N)
    (hd : ∀ H (zs : List (Addr × List V)), Same H1 H → H D = some (.lst (zs.map fun p => V.ref p.1)) → zs.map (·.2) = (List.range n).map f → (∀ p ∈ zs, H p.1 = some (.lst p.2)) → Qd H) :
    ∃ W : Nat → Nat → Hp → Prop, (∃ m, W 0 m (upd H1 D (.lst []))) ∧ ∀ i m H, W i m H →
      (J.stop i H ∧ Qd H) ∨ (J.go i H ∧ ∃ Nx : Hp → Prop, (∀ H', Nx H' → ∃ m', m' < m ∧ W (i + 1) m' H') ∧ ∀ x H', J.yld i H x H' → g x (wipe σ vs) H' fun σ2 H2 => wipe σ2 vs = wipe σ vs ∧ tYes σ2 H2 fun b H3 =>
        if b = true then te σ2 H3 fun y H4 => ∃ acc, H4 D = some (.lst acc) ∧ acc.length < sizeLine ∧ Nx (upd H4 D (.lst (acc ++ [y]))) else Nx H3) := by
  refine lcg w (fun i acc H => ∃ zs : List (Addr × List V), acc = zs.map (fun p => V.ref p.1) ∧ zs.map (·.2) = (List.range i).map f ∧ ∀ p ∈ zs, H p.1 = some (.lst p.2)) hD hG (fun _ _ _ _ s ⟨zs, e1, e2, e3⟩ => ⟨zs, e1, e2, fun p hp => s _ _ (e3 p hp)⟩) ⟨[], rfl, rfl, fun _ h => absurd h (by simp)⟩ (fun i x H H' acc N N0 hi s ea r y k _ => ?_) (fun H xs s e ⟨zs, e1, e2, e3⟩ => ?_)
  · obtain ⟨zs, e1, e2, e3⟩ := r
    refine hs i x H H' N hi s ⟨acc, ea⟩ y fun p H4 s4 d4 => k (.ref p) H4 s4 ?_ ⟨zs ++ [(p, f i)], ?_, ?_, fun q hq => ?_⟩
    · have z := congrArg List.length e2
      rw [List.length_map, List.length_map, List.length_range] at z
      rw [e1, List.length_map]
      omega
    · rw [e1, List.map_append]
      rfl
    · rw [List.map_append, e2, List.range_succ, List.map_append]
      rfl
    · rcases List.mem_append.mp hq with hq | hq
      · exact same_dels s4 D _ _ (e3 q hq)
      · have e : q = (p, f i) := by simpa using hq
        rw [e]
        exact d4
  · subst e1
    exact hd H zs s e e2 fun p hp => same_del _ _ (e3 p hp)
section
variable {P : Program} {w : World} {K : PySem.W.Frag} {mg : Str → Option Value} {base : Heap} {f : Addr} {fd : FuncData}
theorem ok_Lfair (B : Bi mg) (c__law_least : Cal P w K mg base CX0 2 "_law_least" ["_law_clock", "_law_rows_here"] [] (sp_Lleast K)) (c__law_upright : Cal P w K mg base CX0 3 "_law_upright" ["_law_clock", "_law_size", "_law_rows_here"] [] (sp_Lupright K)) (F : FnP K "_law_fair" s_Lfair f fd) : FnOk P w K mg base CX0 4 f fd ["_law_clock", "_law_many", "_law_rows_here"] (sp_Lfair K) := by
  have nd := sc_Lfair.nd
  refine okN F sc_Lfair (fun vs H Q E h => by obtain ⟨c, m, x, rs, rfl, _⟩ := h; rfl) (fun cdv A outer s H vs Q E hr h => ?_)
  have hr__law_least : Room 2 _ := hr.mono (by decide)
  have hr__law_upright := hr
  refine ⟨_, (pss_cons (ps_asg (pe_lst (pa_cons (pe_op op_rep (pe_lst (pa_cons pe_int (pa_cons pe_int pa_nil))) (pe_op op_add (pv 1) pe_int)) (pa_cons (pe_op op_rep (pe_lst (pa_cons pe_int (pa_cons pe_int pa_nil))) (pe_op op_add (pv 1) pe_int)) pa_nil))) (pgn 3 nd))
      (pss_cons (ps_for PassesOwn.never rfl (pi_list (pv 2)) (pgn 4 nd)
      (pss_one (ps_expr (pe_bm PySem.F.plainAttrs_list PySem.F.slot_list_append PySem.F.type_list_append mt_append (pv 3) (pa_cons (pe_op op_cat (pe_lst (pa_cons pe_int (pa_cons pe_int pa_nil))) (pe_callB (kSumLL K rfl) rfl B.sum bt_sum (pa_cons (pe_lc (own := [("_law_number", 5)]) rfl nd (pi_seq (pv 4)) (blkOk_by (N := N_Lfair) (sc := (defScope s_Lfair)) (by decide +kernel)) (fun _ _ _ _ _ => by exact (pgn 5 nd)) (fun _ _ _ _ _ => by exact pts_nil) (fun _ _ _ _ _ => by exact (pe_lst (pa_cons (pv 5) (pa_cons pe_int pa_nil))))) (pa_cons (pe_lst pa_nil) pa_nil)))) pa_nil)))))
      (pss_cons (ps_for PassesOwn.never rfl (pi_tup (e_call c__law_upright hr__law_upright pass0 (pa_cons (pv 0) (pa_cons (pv 1) (pa_cons (pv 2) pa_nil))))) (pgn 4 nd)
      (pss_one (ps_expr (pe_bm PySem.F.plainAttrs_list PySem.F.slot_list_append PySem.F.type_list_append mt_append (pv 3) (pa_cons (pe_op op_cat (pe_lst (pa_cons pe_int (pa_cons pe_int pa_nil))) (pe_callB (kSumLL K rfl) rfl B.sum bt_sum (pa_cons (pe_lc (own := [("_law_at", 6)]) rfl nd (pi_range1 rfl B.range (pa_cons (pv 1) pa_nil)) (blkOk_by (N := N_Lfair) (sc := (defScope s_Lfair)) (by decide +kernel)) (fun _ _ _ _ _ => by exact (pgn 6 nd)) (fun _ _ _ _ _ => by exact pts_nil) (fun _ _ _ _ _ => by exact (pe_lst (pa_cons pe_int (pa_cons (pe_op op_mod (pe_callTy call_int1 rfl B.int bt_int (pa_cons (pe_callB (kSumT K rfl) rfl B.sum bt_sum (pa_cons (pe_slice (kSlA K) (pv 4) po_none (po_some (pe_op op_add (pv 6) pe_int))) pa_nil)) pa_nil)) (pv 0)) pa_nil))))) (pa_cons (pe_lst pa_nil) pa_nil)))) pa_nil)))))
      (pss_one (ps_ret (e_call c__law_least hr__law_least pass0 (pa_cons (pv 0) (pa_cons (pv 3) pa_nil)))))))), ?_⟩
  obtain ⟨c, n, x, rs, rfl, ⟨a, us, rfl, ha, pr⟩, hc, hok, n1, n7, hm, q⟩ := h
  have c0 := hc.pos
  have c1 := hc.le
  have sz : (1000000 : Nat) ≤ sizeLine := by decide
  have tn : ((n : Int) + 1).toNat = n + 1 := by omega
  have el : us.length = rs.length := Paired.length pr
  refine ⟨(by show 2 ≤ sizeLine; decide), fun l1 hl1 => ⟨_, rfl, (n : Int), 1, rfl, rfl, l1, _, _, rfl, rfl, upd_same, by omega, by omega, ?_, fun p1 hp1 => ⟨(by show 2 ≤ sizeLine; decide), fun l2 hl2 => ⟨_, rfl, (n : Int), 1, rfl, rfl, l2, _, _, rfl, rfl, upd_same, by omega, by omega, ?_, fun p2 hp2 => ⟨(by show 2 ≤ sizeLine; decide), fun R hR => ?_⟩⟩⟩⟩⟩
  · rw [tn]
    show 2 * (n + 1) ≤ sizeLine
    omega
  · rw [tn]
    show 2 * (n + 1) ≤ sizeLine
    omega
  have f10 : (List.replicate (n + 1) [V.int 1, V.int 0]).flatten = (rep10 (n + 1)).map V.int := flat_ints _ _ _
  have f01 : (List.replicate (n + 1) [V.int 0, V.int 1]).flatten = (rep01 (n + 1)).map V.int := flat_ints _ _ _
  rw [tn, f10] at hl2
  rw [tn, f10] at hp2
  rw [tn, f10, f01] at hR
  rw [tn, f10, f01]
  have t1 := (same_upd (o := .lst [.int 1, .int 0]) hl1).trans (same_upd (o := .lst ((rep10 (n + 1)).map V.int)) hp1)
  have e1 : upd (upd H l1 (.lst [.int 1, .int 0])) p1 (.lst ((rep10 (n + 1)).map V.int)) p1 = some (.lst ((rep10 (n + 1)).map V.int)) := upd_same
  have t2 := (same_upd (o := .lst [.int 0, .int 1]) hl2).trans (same_upd (o := .lst ((rep01 (n + 1)).map V.int)) hp2)
  have e2 : upd (upd (upd (upd H l1 (.lst [.int 1, .int 0])) p1 (.lst ((rep10 (n + 1)).map V.int))) l2 (.lst [.int 0, .int 1])) p2 (.lst ((rep01 (n + 1)).map V.int)) p2 = some (.lst ((rep01 (n + 1)).map V.int)) := upd_same
  have e1' := t2 _ _ e1
  have s2 := t1.trans t2
  change upd (upd (upd (upd H l1 (.lst [.int 1, .int 0])) p1 (.lst ((rep10 (n + 1)).map V.int))) l2 (.lst [.int 0, .int 1])) p2 (.lst ((rep01 (n + 1)).map V.int)) R = none at hR
  show gName 3 (.ref R) _ (upd (upd (upd (upd (upd H l1 (.lst [.int 1, .int 0])) p1 (.lst ((rep10 (n + 1)).map V.int))) l2 (.lst [.int 0, .int 1])) p2 (.lst ((rep01 (n + 1)).map V.int))) R (.lst [.ref p1, .ref p2])) _
  generalize upd (upd (upd (upd H l1 (.lst [.int 1, .int 0])) p1 (.lst ((rep10 (n + 1)).map V.int))) l2 (.lst [.int 0, .int 1])) p2 (.lst ((rep01 (n + 1)).map V.int)) = H2 at hR e2 e1' s2
  have np1 : p1 ≠ R := ne_of_none e1' hR
  have np2 : p2 ≠ R := ne_of_none e2 hR
  have rl : RL K (upd H2 R (.lst [.ref p1, .ref p2])) R [rep10 (n + 1), rep01 (n + 1)] := by
    refine ⟨_, upd_same, ?_⟩
    rw [del_upd]
    exact .cons (dp_L (.of (by rw [del_ne np1]; exact e1'))) (.cons (dp_L (.of (by rw [del_ne np2]; exact e2))) .nil)
  have s23 : Same H (upd H2 R (.lst [.ref p1, .ref p2])) := s2.trans (same_upd hR)
  have hRH : H R = none := Same.free s2 hR
  generalize upd H2 R (.lst [.ref p1, .ref p2]) = H3 at rl s23
  -- for row in rows
  dsimp only [gName]
  refine ⟨_, rfl, a, rfl, ⟨_, s23.seq ha⟩, ?_⟩
  refine for_it (walk_list (xs := us)) (fun i σ H' => Same H H' ∧ RL K H' R ([rep10 (n + 1), rep01 (n + 1)] ++ (rs.take i).map withW) ∧ ∃ x4 x5 x6, σ = [some (.int c), some (.int n), some (.ref a), some (.ref R), x4, x5, x6])
    ⟨s23, rl, _, _, _, rfl⟩ (fun i σ H' _ z => z.1.seq ha) ?_ ?_
  · rintro i u σ Ha Hb hi ⟨s4, ⟨acc, eacc, hacc⟩, x4, x5, x6, rfl⟩ ⟨rfl, hu⟩
    obtain ⟨row, hrow, b, rfl, hb⟩ := paired_get pr hu
    have okr := hok row (List.mem_of_getElem? hrow)
    have hb4 : SqL K Hb b (row.map V.int) ∨ SqT K Hb b (row.map V.int) := hb.elim (fun z => .inl (s4.seq z)) (fun z => .inr (same_tup s4 z))
    refine ⟨_, rfl, .inl ⟨rfl, _, .of eacc⟩, (by show 2 ≤ sizeLine; decide), fun z1 hz1 => ?_⟩
    have s5 : Same Hb (upd Hb z1 (.lst [.int 0, .int 0])) := same_upd hz1
    have ez1 : upd Hb z1 (.lst [.int 0, .int 0]) z1 = some (.lst [.int 0, .int 0]) := upd_same
    generalize upd Hb z1 (.lst [.int 0, .int 0]) = H5 at s5 ez1 ⊢
    refine ⟨_, rfl, b, rfl, _, hb4.elim (fun z => .inl (s5.seq z)) (fun z => .inr (same_tup s5 z)), fun J G wk hG D hD => ?_⟩
    rw [List.length_map] at wk
    refine lc_lsts wk (fun j => [.int (row.getD j 0), .int 0]) hD (by rw [okr.1]; omega) hG (fun j u2 Hc Hd N hj s6 hacc2 y k => ?_) (fun H6 zs s6 eD ez hzs => ?_)
    · obtain ⟨rfl, hu2⟩ := y
      obtain ⟨m, hm2, rfl⟩ := int_get hu2
      obtain ⟨acc2, hacc2⟩ := hacc2
      refine ⟨rfl, _, rfl, (by show 2 ≤ sizeLine; decide), fun p hp => k p _ (same_upd hp) ?_⟩
      have nD : p ≠ D := ne_of_none' hacc2 hp
      rw [del_ne nD, upd_same, getD_of hm2]
    · refine ⟨(by show 0 ≤ sizeLine; decide), fun e0 he0 => ?_⟩
      have s7 : Same H6 (upd H6 e0 (.lst [])) := same_upd he0
      have ee0 : upd H6 e0 (.lst []) e0 = some (.lst []) := upd_same
      generalize upd H6 e0 (.lst []) = H7 at s7 ee0
      have efl : (zs.map (·.2)).flatten = ((row.map fun x => [x, 0]).flatten).map V.int := by
        have z := map_range_getD row 0 fun x => [V.int x, V.int 0]
        rw [ez, z, List.map_flatten, List.map_map]
        rfl
      have lfl : ((row.map fun x => [x, 0]).flatten).length = 2 * n := by
        have z := withW_len row
        rw [withW_flat, List.length_append, okr.1] at z
        have z2 : ([0, 0] : List Int).length = 2 := rfl
        omega
      have hzn : zs ≠ [] := fun z => by
        have z2 := congrArg List.length ez
        rw [z, List.length_map, List.length_map, List.length_range, okr.1] at z2
        have z3 : ([] : List (Addr × List V)).length = 0 := rfl
        omega
      refine ⟨D, e0, zs, rfl, .of (s7 _ _ eD), ee0, hzn, fun p hp => s7 _ _ (hzs p hp), by rw [efl, List.length_map, lfl]; omega, fun p3 hp3 => ?_⟩
      rw [efl]
      have s8 : Same H7 (upd H7 p3 (.lst (((row.map fun x => [x, 0]).flatten).map V.int))) := same_upd hp3
      have e3 : upd H7 p3 (.lst (((row.map fun x => [x, 0]).flatten).map V.int)) p3 = some (.lst (((row.map fun x => [x, 0]).flatten).map V.int)) := upd_same
      generalize upd H7 p3 (.lst (((row.map fun x => [x, 0]).flatten).map V.int)) = H8 at s8 e3
      have s58 := (s6.trans s7).trans s8
      refine ⟨z1, p3, _, _, rfl, rfl, s58 _ _ ez1, e3, by rw [List.length_map, lfl]; show 2 + 2 * n ≤ sizeLine; omega, fun p4 hp4 => ?_⟩
      have ew : [V.int 0, V.int 0] ++ ((row.map fun x => [x, 0]).flatten).map V.int = (withW row).map V.int := by
        rw [withW_flat]
        rfl
      rw [ew]
      have s9 : Same Hb (upd H8 p4 (.lst ((withW row).map V.int))) := (s5.trans s58).trans (same_upd hp4)
      have e4 : upd H8 p4 (.lst ((withW row).map V.int)) p4 = some (.lst ((withW row).map V.int)) := upd_same
      have n4 : R ≠ p4 := fun z => by
        rw [← z, (s5.trans s58) _ _ eacc] at hp4
        cases hp4
      generalize upd H8 p4 (.lst ((withW row).map V.int)) = H9 at s9 e4
      have lacc : acc.length ≤ 2 + i := by
        rw [dpa_length hacc, List.length_map, List.length_append, List.length_map, List.length_take]
        show 2 + min i rs.length ≤ 2 + i
        omega
      refine ⟨R, acc, _, rfl, rfl, s9 _ _ eacc, by omega, same_over hRH (s4.trans s9), ⟨_, upd_same, ?_⟩, _, _, _, rfl⟩
      have eR : [rep10 (n + 1), rep01 (n + 1)] ++ (rs.take i ++ [row]).map withW = ([rep10 (n + 1), rep01 (n + 1)] ++ (rs.take i).map withW) ++ [withW row] := by simp
      rw [del_upd, take_snoc' hrow, eR, List.map_append]
      exact dpa_app (.cons (dp_L (.of (by rw [del_ne (Ne.symm n4)]; exact e4))) .nil) (dpa_same (same_dels s9 R) hacc)
  · rintro σ Ha ⟨s4, rl4, x4, x5, x6, rfl⟩
    rw [el, List.take_length] at rl4
    -- for row in upright(clock, many, rows)
    refine ⟨_, rfl, _, rfl, _, rfl, c, n, _, rs, rfl, ⟨a, us, rfl, s4.seq ha, Paired.mapP pr fun _ _ => RowV.same s4⟩, hc, hok, by omega, by omega, fun H5 v s5 hv => ?_⟩
    have up0 := upRows_ok (n := n) (F := formOf c rs) hc
    have lup := leastIn_len hc up0
    have okup := leastIn_ok hc up0
    have eres : lawFair c n rs = ([rep10 (n + 1), rep01 (n + 1)] ++ rs.map withW) ++ (leastIn c (upRows c n (formOf c rs))).map (withB c) := rfl
    generalize leastIn c (upRows c n (formOf c rs)) = up at lup okup eres hv
    obtain ⟨b, ws, rfl, hb, hws⟩ := dp_tup' hv
    have elw : ws.length = up.length := by rw [dpa_length hws, List.length_map]
    have rl5 := rl4.same s5
    have s45 := s4.trans s5
    refine ⟨b, rfl, ⟨_, hb⟩, ?_⟩
    refine for_it (walk_tup (xs := ws)) (fun i σ H' => Same H H' ∧ Same (del H5 R) (del H' R) ∧ RL K H' R (([rep10 (n + 1), rep01 (n + 1)] ++ rs.map withW) ++ (up.take i).map (withB c)) ∧ ∃ x4 x5 x6, σ = [some (.int c), some (.int n), some (.ref a), some (.ref R), x4, x5, x6])
      ⟨s45, Same.refl _, by rw [List.take_zero, List.map_nil, List.append_nil]; exact rl5, _, _, _, rfl⟩ (fun i σ H' _ z => ?_) ?_ ?_
    · exact same_tup (z.2.1.trans same_del) (tup_del hb rl5.choose_spec.1)
    · rintro i u σ Ha Hb hi ⟨s6, s6', ⟨acc, eacc, hacc⟩, x4, x5, x6, rfl⟩ ⟨rfl, hu⟩
      obtain ⟨row, hrow, hd⟩ := row_get hws hu
      obtain ⟨vs5, ev5, _⟩ := rl5
      obtain ⟨b2, rfl, hb2⟩ := dp_T' (dp_same (s6'.trans same_del) (dpT_del hd ev5))
      have okr := okup row (List.mem_of_getElem? hrow)
      refine ⟨_, rfl, .inl ⟨rfl, _, .of eacc⟩, (by show 2 ≤ sizeLine; decide), fun z1 hz1 => ?_⟩
      have s7 : Same Hb (upd Hb z1 (.lst [.int 0, .int 0])) := same_upd hz1
      have ez1 : upd Hb z1 (.lst [.int 0, .int 0]) z1 = some (.lst [.int 0, .int 0]) := upd_same
      generalize upd Hb z1 (.lst [.int 0, .int 0]) = H7 at s7 ez1 ⊢
      have hb7 := same_tup s7 hb2
      refine ⟨_, rfl, (n : Int), rfl, by omega, by omega, fun D hD => ?_⟩
      rw [show ((n : Int)).toNat = n by omega]
      refine lc_lsts (walk_r0 (n := n)) (fun j => [.int 0, .int ((row.take (j + 1)).sum % c)]) hD (by omega) (fun _ _ => trivial) (fun j u2 Hc Hd N hj s8 hacc2 y k => ?_) (fun H8 zs s8 eD ez hzs => ?_)
      · obtain ⟨rfl, rfl⟩ := y
        obtain ⟨acc2, hacc2⟩ := hacc2
        have hb8 := same_tup s8 hb7
        have esx : HT.sIx (row.map V.int).length (row.map V.int).length (some ((j : Int) + 1)) = j + 1 := by
          rw [show (j : Int) + 1 = ((j + 1 : Nat) : Int) by omega, HT.sIx_nat, List.length_map, okr.1]
          omega
        have ecut : cutV (row.map V.int) none (some ((j : Int) + 1)) = (row.take (j + 1)).map V.int := by
          unfold cutV
          rw [HT.sIx_none, esx, List.drop_zero, Nat.sub_zero, List.map_take]
        have fin : ∀ (H9 : Hp) (T : Addr), Same Hd H9 → SqT K H9 T ((row.take (j + 1)).map V.int) → True := fun _ _ _ _ => trivial
        refine ⟨rfl, _, rfl, _, rfl, (j : Int), 1, rfl, rfl, _, rfl, b2, _, rfl, hb8, fun hw => ?_, fun hw T hT => ?_⟩
        · rw [esx, List.length_map, okr.1] at hw
          have et : row.take (j + 1) = row := by rw [List.take_of_length_le]; rw [okr.1]; omega
          refine ⟨b2, row, rfl, hb8, .inl ⟨_, rfl, _, rfl, _, _, rfl, rfl, c0, (by show 2 ≤ sizeLine; decide), fun p hp => ?_⟩⟩
          have nD : p ≠ D := ne_of_none' hacc2 hp
          refine k p _ (same_upd hp) ?_
          rw [del_ne nD, upd_same, et]
        · have sT : Same Hd (upd Hd T (.tup (cutV (row.map V.int) none (some ((j : Int) + 1))))) := same_upd hT
          have eT : upd Hd T (.tup (cutV (row.map V.int) none (some ((j : Int) + 1)))) T = some (.tup ((row.take (j + 1)).map V.int)) := by rw [upd_same, ecut]
          refine ⟨T, row.take (j + 1), rfl, .of eT, .inl ⟨_, rfl, _, rfl, _, _, rfl, rfl, c0, (by show 2 ≤ sizeLine; decide), fun p hp => ?_⟩⟩
          have nD : p ≠ D := ne_of_none' (sT _ _ hacc2) hp
          refine k p _ (sT.trans (same_upd hp)) ?_
          rw [del_ne nD, upd_same]
      · refine ⟨(by show 0 ≤ sizeLine; decide), fun e0 he0 => ?_⟩
        have s9 : Same H8 (upd H8 e0 (.lst [])) := same_upd he0
        have ee0 : upd H8 e0 (.lst []) e0 = some (.lst []) := upd_same
        generalize upd H8 e0 (.lst []) = H9 at s9 ee0
        have elB : (List.range n).map (fun a => [0, (row.take (a + 1)).sum % c]) = (List.range row.length).map (fun a => [0, (row.take (a + 1)).sum % c]) := by rw [okr.1]
        have efl : (zs.map (·.2)).flatten = (((List.range row.length).map fun a => [0, (row.take (a + 1)).sum % c]).flatten).map V.int := by
          rw [ez, List.map_flatten, List.map_map, okr.1]
          rfl
        have lfl : (((List.range row.length).map fun a => [0, (row.take (a + 1)).sum % c]).flatten).length = 2 * n := by
          have z := withB_len c row
          rw [← lawB_eq] at z
          unfold lawB at z
          rw [List.length_append, okr.1] at z
          rw [okr.1]
          have z2 : ([0, 0] : List Int).length = 2 := rfl
          omega
        have hzn : zs ≠ [] := fun z => by
          have z2 := congrArg List.length ez
          rw [z, List.length_map, List.length_map, List.length_range] at z2
          have z3 : ([] : List (Addr × List V)).length = 0 := rfl
          omega
        refine ⟨D, e0, zs, rfl, .of (s9 _ _ eD), ee0, hzn, fun p hp => s9 _ _ (hzs p hp), by rw [efl, List.length_map, lfl]; omega, fun p3 hp3 => ?_⟩
        rw [efl]
        generalize hfl : ((List.range row.length).map fun a => [0, (row.take (a + 1)).sum % c]).flatten = fl at lfl
        have s10 : Same H9 (upd H9 p3 (.lst (fl.map V.int))) := same_upd hp3
        have e3 : upd H9 p3 (.lst (fl.map V.int)) p3 = some (.lst (fl.map V.int)) := upd_same
        generalize upd H9 p3 (.lst (fl.map V.int)) = H10 at s10 e3
        have s80 := (s8.trans s9).trans s10
        refine ⟨z1, p3, _, _, rfl, rfl, s80 _ _ ez1, e3, by rw [List.length_map, lfl]; show 2 + 2 * n ≤ sizeLine; omega, fun p4 hp4 => ?_⟩
        have ew : [V.int 0, V.int 0] ++ fl.map V.int = (withB c row).map V.int := by
          rw [← lawB_eq]
          unfold lawB
          rw [hfl]
          rfl
        rw [ew]
        have s11 : Same Hb (upd H10 p4 (.lst ((withB c row).map V.int))) := (s7.trans s80).trans (same_upd hp4)
        have e4 : upd H10 p4 (.lst ((withB c row).map V.int)) p4 = some (.lst ((withB c row).map V.int)) := upd_same
        have n4 : R ≠ p4 := fun z => by
          rw [← z, (s7.trans s80) _ _ eacc] at hp4
          cases hp4
        generalize upd H10 p4 (.lst ((withB c row).map V.int)) = H11 at s11 e4
        have lacc : acc.length ≤ 2 + rs.length + i := by
          rw [dpa_length hacc, List.length_map, List.length_append, List.length_append, List.length_map, List.length_map, List.length_take]
          show 2 + rs.length + min i up.length ≤ _
          omega
        refine ⟨R, acc, _, rfl, rfl, s11 _ _ eacc, by omega, same_over hRH (s6.trans s11), ?_, ⟨_, upd_same, ?_⟩, _, _, _, rfl⟩
        · rw [del_upd]
          exact s6'.trans (same_dels s11 R)
        · have eR : ([rep10 (n + 1), rep01 (n + 1)] ++ rs.map withW) ++ (up.take i ++ [row]).map (withB c) = (([rep10 (n + 1), rep01 (n + 1)] ++ rs.map withW) ++ (up.take i).map (withB c)) ++ [withB c row] := by simp
          rw [del_upd, take_snoc' hrow, eR, List.map_append]
          exact dpa_app (.cons (dp_L (.of (by rw [del_ne (Ne.symm n4)]; exact e4))) .nil) (dpa_same (same_dels s11 R) hacc)
    · rintro σ Ha ⟨s6, _, rl6, x4, x5, x6, rfl⟩
      rw [elw, List.take_length, ← eres] at rl6
      refine ⟨_, rfl, _, rfl, c, 2 * (n + 1), _, _, rfl, rl6.lrows, hc, lawFair_ok hc hok, by omega, Nat.le_trans (lawFair_len hc) (by omega), fun H' v s7 h7 => q _ _ (s6.trans s7) h7⟩
end
end K61

set_option Elab.async false
set_option linter.all false
set_option maxRecDepth 100000
set_option maxHeartbeats 4000000
/-! The walks: the law's own rows off the board. -/
namespace K61
open PySem PySem.Spec PyProof.Rows L2
abbrev s_Lrows : Stmt := top 75
abbrev N_Lrows : List Str := ["_law_chessboard_here", "_law_clock", "_law_size", "_law_most", "_law_found", "_law_turn", "_law_row", "_law_at", "_law_number"]
theorem sc_Lrows : FnScope N_Lrows ["_law_chessboard_here", "_law_clock", "_law_size", "_law_most"] (defScope s_Lrows) := ⟨rfl, rfl, rfl, by decide +kernel, rfl, by decide +kernel, by decide +kernel⟩
def sp_Lrows (K : PySem.W.Frag) : Sp := fun vs H Q _ => ∃ (B A : Addr) (c : Int) (n most m : Nat), vs = [.ref B, .int c, .int n, .int most] ∧ Board K H B A (m + most * (2 * n + 1) + 1) ∧ Clock c ∧ 1 ≤ n ∧ n ≤ 100 ∧ most ≤ 100 ∧
  ∀ (H' : Hp) (R : Addr) (rs : List (List Int)), SameB B H H' → Board K H' B A m → RL K (del H' B) R rs → (∀ r ∈ rs, RowOk c n r) → rs.length ≤ most → Q (.ref R) H'
theorem sameB_put {B D : Addr} {H H' : Hp} {o : HO} (h : H D = none) (s : SameB B H H') : SameB B H (upd H' D o) := fun b u e => by
  have nb : b ≠ B := fun z => by rw [z, del_at] at e; cases e
  have z := s b u e
  rw [del_ne nb] at e z ⊢
  rw [upd_ne (ne_of_none e h)]
  exact z
theorem sameB_new {B D : Addr} {H : Hp} {o : HO} (h : H D = none) : SameB B H (upd H D o) := sameB_put h (Same.refl _)
theorem sameB_get {B b : Addr} {H H' : Hp} {o : HO} (nb : b ≠ B) (s : SameB B H H') (e : H b = some o) : H' b = some o := by
  have z := s b o (by rw [del_ne nb]; exact e)
  rw [del_ne nb] at z
  exact z
theorem sameB_free {B D : Addr} {H H' : Hp} (nb : D ≠ B) (s : SameB B H H') (e : H' D = none) : H D = none := by
  cases z : H D with
  | none => rfl
  | some o =>
    have y := sameB_get nb s z
    rw [e] at y
    cases y
theorem Board.at {K : PySem.W.Frag} {H : Hp} {B A : Addr} {n : Nat} (h : Board K H B A n) : ∃ xs, H B = some (.lst xs) := by
  obtain ⟨cells, t, l, e, _⟩ := h
  exact ⟨_, e⟩
theorem Board.ne {K : PySem.W.Frag} {H : Hp} {B A D : Addr} {n : Nat} (h : Board K H B A n) (hD : H D = none) : D ≠ B := fun z => by
  obtain ⟨xs, e⟩ := h.at
  rw [z, e] at hD
  cases hD
theorem Board.put {K : PySem.W.Frag} {H1 H : Hp} {B A D : Addr} {n j : Nat} {o : HO} (h1 : Board K H1 B A n) (s : SameB B H1 H) (h : Board K H B A j) (hD : H1 D = none) : Board K (upd H D o) B A j := by
  have nD := h1.ne hD
  obtain ⟨cells, _, _, _, g2, g3, _⟩ := h1
  obtain ⟨_, t, l, e1, _, _, e4, e5⟩ := h
  refine ⟨cells, t, l, ?_, (sameB_put hD s).seq g2, g3, e4, e5⟩
  rw [upd_ne (Ne.symm nD)]
  exact e1
/-- every turn gives an int off the board -/
theorem lcB {K : PySem.W.Frag} {J : It} {n : Nat} {G : Hp → Prop} {Y : Nat → Hp → V → Hp → Prop} (w : Walk J n G Y) {g : TG} {te : TE} {vs : List Nat} {σ : L2.St} {H1 : Hp} {D : Addr} {Qd : Hp → Prop} {B A : Addr} {k m : Nat} (P : Int → Prop) (hD : H1 D = none) (hn : n ≤ sizeLine) (hB : Board K H1 B A (m + n * k))
    (hG : ∀ H, SameB B H1 H → G H)
    (hs : ∀ i x H H' (N : V → Hp → Prop), i < n → SameB B H1 H → Board K H B A (m + (n - i - 1) * k + k) → D ≠ B → Y i H x H' → (∀ (v : Int) H4, SameB B H H4 → Board K H4 B A (m + (n - i - 1) * k) → P v → N (.int v) H4) → g x (wipe σ vs) H' fun σ2 H2 => wipe σ2 vs = wipe σ vs ∧ te σ2 H2 N)
    (hd : ∀ H (ns : List Int), SameB B H1 H → Board K H B A m → H D = some (.lst (ns.map V.int)) → ns.length = n → (∀ x ∈ ns, P x) → Qd H) :
    ∃ W : Nat → Nat → Hp → Prop, (∃ m, W 0 m (upd H1 D (.lst []))) ∧ ∀ i m H, W i m H →
      (J.stop i H ∧ Qd H) ∨ (J.go i H ∧ ∃ Nx : Hp → Prop, (∀ H', Nx H' → ∃ m', m' < m ∧ W (i + 1) m' H') ∧ ∀ x H', J.yld i H x H' → g x (wipe σ vs) H' fun σ2 H2 => wipe σ2 vs = wipe σ vs ∧ tYes σ2 H2 fun b H3 =>
        if b = true then te σ2 H3 fun y H4 => ∃ acc, H4 D = some (.lst acc) ∧ acc.length < sizeLine ∧ Nx (upd H4 D (.lst (acc ++ [y]))) else Nx H3) := by
  have nD := hB.ne hD
  refine lc_it w (fun i H => SameB B H1 H ∧ i ≤ n ∧ Board K H B A (m + (n - i) * k) ∧ ∃ ns : List Int, H D = some (.lst (ns.map V.int)) ∧ ns.length = i ∧ ∀ x ∈ ns, P x) ⟨sameB_new hD, Nat.zero_le _, hB.put (Same.refl _) hB hD, [], upd_same, rfl, fun _ h => absurd h (by simp)⟩ (fun i H _ p => hG H p.1) (fun i x H H' hi p y => ?_) (fun H ⟨s, _, b, ns, e, l, p⟩ => hd H ns s (by rw [Nat.sub_self, Nat.zero_mul] at b; exact b) e l p)
  obtain ⟨s, _, b, ns, e, l, p⟩ := p
  have en : n - i = (n - i - 1) + 1 := by omega
  rw [en, Nat.succ_mul, ← Nat.add_assoc] at b
  refine hs i x H H' _ hi s b nD y fun v H4 s4 b4 hv => ⟨ns.map V.int, sameB_get nD s4 e, by rw [List.length_map]; omega, sameB_put hD (s.trans s4), hi, ?_, ns ++ [v], ?_, by rw [List.length_append, l]; rfl, fun z hz => ?_⟩
  · rw [show n - (i + 1) = n - i - 1 by omega]
    exact hB.put (s.trans s4) b4 hD
  · rw [upd_same, List.map_append]
    rfl
  · rcases List.mem_append.mp hz with hz | hz
    · exact p z hz
    · have e : z = v := by simpa using hz
      rw [e]
      exact hv
section
variable {P : Program} {w : World} {K : PySem.W.Frag} {mg : Str → Option Value} {base : Heap} {f : Addr} {fd : FuncData}
theorem ok_Lrows (Bu : Bi mg) (c__law_square : Cal P w K mg base CX0 1 "_law_square" ["_law_chessboard_here", "_law_many"] [] (sp_square K)) (c__law_pick : Cal P w K mg base CX0 2 "_law_pick" ["_law_chessboard_here", "_law_some"] [] (sp_pick K)) (F : FnP K "_law_rows" s_Lrows f fd) : FnOk P w K mg base CX0 3 f fd ["_law_chessboard_here", "_law_clock", "_law_size", "_law_most"] (sp_Lrows K) := by
  have nd := sc_Lrows.nd
  have B := Bu
  refine okN F sc_Lrows (fun vs H Q E h => by obtain ⟨B, A, c, n, most, m, rfl, _⟩ := h; rfl) (fun cdv A outer s H vs Q E hr h => ?_)
  have hr__law_square : Room 1 _ := hr.mono (by decide)
  have hr__law_pick := hr
  refine ⟨_, (pss_cons (ps_asg (pe_lst pa_nil) (pgn 4 nd))
      (pss_cons (ps_for PassesOwn.never rfl (pi_range1 rfl B.range (pa_cons (e_call c__law_square hr__law_square pass0 (pa_cons (pv 0) (pa_cons (pe_op op_add (pv 3) pe_int) pa_nil))) pa_nil)) (pgn 5 nd)
      (pss_cons (ps_setLc (i := 6) (own := [("_law_at", 7)]) rfl nd rfl rfl (sw_true rfl rfl rfl (by decide +kernel)) (pi_range1 rfl B.range (pa_cons (pv 2) pa_nil)) (blkOk_by (N := N_Lrows) (sc := (defScope s_Lrows)) (by decide +kernel)) (fun _ _ _ _ _ => by exact (pgn 7 nd)) (fun _ _ _ _ _ => by exact pts_nil) (fun _ _ _ _ _ => by exact (e_call c__law_pick hr__law_pick pass0 (pa_cons (pv 0) (pa_cons (pe_lst (pa_cons pe_int (pa_cons pe_int (pa_cons (e_call c__law_square hr__law_square pass0 (pa_cons (pv 0) (pa_cons (pv 1) pa_nil))) pa_nil)))) pa_nil)))))
      (pss_cons (ps_if (PW.pt (pw_and (pt_cmpR (op_neD hr.units) (pv 4) (pe_lst pa_nil) (nomark _)) (pw_and1 (pt_cmpR op_eq (e_call c__law_square hr__law_square pass0 (pa_cons (pv 0) (pa_cons pe_int pa_nil))) pe_int (nomark _))))) (pss_one (ps_setLc (i := 6) (own := [("_law_number", 8)]) rfl nd rfl rfl (sw_true rfl rfl rfl (by decide +kernel)) (pi_seq (pe_ix (kIxL K) (pv 4) pe_int (fun _ _ => rfl))) (blkOk_by (N := N_Lrows) (sc := (defScope s_Lrows)) (by decide +kernel)) (fun _ _ _ _ _ => by exact (pgn 8 nd)) (fun _ _ _ _ _ => by exact pts_nil) (fun _ _ _ _ _ => by exact (pe_op op_mod (pe_callTy call_int1 rfl B.int bt_int (pa_cons (pe_op op_mul pe_int (pv 8)) pa_nil)) (pv 1))))) pss_nil)
      (pss_one (ps_expr (pe_bm PySem.F.plainAttrs_list PySem.F.slot_list_append PySem.F.type_list_append mt_append (pv 4) (pa_cons (pv 6) pa_nil)))))))
      (pss_one (ps_ret (pv 4))))), ?_⟩
  clear B
  obtain ⟨B, A, c, n, most, m, rfl, hb, hc, n1, n2, hm, q⟩ := h
  have c0 := hc.pos
  have c1 := hc.le
  have c2 := hc.two
  have sz : (1000000 : Nat) ≤ sizeLine := by decide
  refine ⟨(by show 0 ≤ sizeLine; decide), fun R hR => ?_⟩
  have nR := hb.ne hR
  have hb1 : Board K (upd H R (.lst [])) B A (m + most * (2 * n + 1) + 1) := hb.put (Same.refl _) hb hR
  have sb1 : SameB B H (upd H R (.lst [])) := sameB_new hR
  have eR : upd H R (.lst []) R = some (.lst []) := upd_same
  dsimp only [gName]
  generalize upd H R (.lst []) = H1 at hb1 sb1 eR
  refine ⟨_, rfl, _, rfl, (most : Int), 1, rfl, rfl, B, A, m + most * (2 * n + 1), (most : Int) + 1, rfl, hb1, by omega, by omega, fun H2 v s2 hb2 v0 v1 => ⟨v, rfl, by omega, by omega, ?_⟩⟩
  obtain ⟨k, rfl⟩ : ∃ k : Nat, v = (k : Int) := ⟨v.toNat, by omega⟩
  have hk : k ≤ most := by omega
  rw [show ((k : Int)).toNat = k by omega]
  have sb2 : SameB B H H2 := sb1.trans s2
  have eR2 := sameB_get nR s2 eR
  refine for_it (walk_r0 (n := k)) (fun i σ H' => SameB B H H' ∧ Board K H' B A (m + (most - i) * (2 * n + 1)) ∧ (∃ rs, RL K (del H' B) R rs ∧ (∀ r ∈ rs, RowOk c n r) ∧ rs.length = i) ∧ ∃ x5 x6 x7 x8, σ = [some (.ref B), some (.int c), some (.int n), some (.int most), some (.ref R), x5, x6, x7, x8])
    ⟨sb2, by rw [Nat.sub_zero]; exact hb2, ⟨[], ⟨[], by rw [del_ne nR]; exact eR2, .nil⟩, fun _ h => absurd h (by simp), rfl⟩, _, _, _, _, rfl⟩ (fun _ _ _ _ _ => trivial) ?_ ?_
  · rintro i u σ Ha Hb hi ⟨s3, hb3, ⟨rs, rl, hok, hlen⟩, x5, x6, x7, x8, rfl⟩ ⟨rfl, rfl⟩
    have em : (most - i) * (2 * n + 1) = (most - (i + 1)) * (2 * n + 1) + 1 + n * 2 := by
      rw [show most - i = (most - (i + 1)) + 1 by omega, Nat.succ_mul]
      omega
    rw [em, ← Nat.add_assoc, ← Nat.add_assoc] at hb3
    generalize hm2 : m + (most - (i + 1)) * (2 * n + 1) = m2 at hb3 ⊢
    -- row = [pick(board, [0, 1, square(board, clock)]) for at in range(size)]
    refine ⟨_, rfl, (n : Int), rfl, by omega, by omega, fun D hD => ?_⟩
    rw [show ((n : Int)).toNat = n by omega]
    refine lcB (K := K) (k := 2) (m := m2 + 1) (walk_r0 (n := n)) (fun v => 0 ≤ v ∧ v < c) hD (by omega) hb3 (fun _ _ => trivial) (fun j x Hc Hd N hj s4 hb4 nD y k => ?_) (fun H4 ns s4 hb4 eD ln hns => ?_)
    · obtain ⟨rfl, rfl⟩ := y
      refine ⟨rfl, _, rfl, _, rfl, _, rfl, B, A, _, c, rfl, hb4, by omega, by omega, fun H5 v s5 hb5 v0 v1 => ⟨(by show 3 ≤ sizeLine; decide), fun S hS => ?_⟩⟩
      have nS := hb5.ne hS
      refine ⟨B, A, S, _, [.int 0, .int 1, .int v], rfl, hb5.put (Same.refl _) hb5 hS, .of (by rw [del_ne nS]; exact upd_same), (by show 0 < 3; decide), (by show 3 < 1000; decide), fun H6 j2 z s6 hb6 hz => ?_⟩
      have s56 : SameB B Hd H6 := (s5.trans (sameB_new hS)).trans s6
      match j2, hz with
      | 0, hz =>
        cases hz
        exact k 0 H6 s56 hb6 ⟨by omega, by omega⟩
      | 1, hz =>
        cases hz
        exact k 1 H6 s56 hb6 ⟨by omega, by omega⟩
      | 2, hz =>
        cases hz
        exact k v H6 s56 hb6 ⟨v0, v1⟩
    · have s34 : SameB B H H4 := s3.trans s4
      have nDB := hb3.ne hD
      have rl4 : RL K (del H4 B) R rs := rl.same s4
      have nDR : D ≠ R := fun z => by
        obtain ⟨vs, ev, _⟩ := rl
        rw [del_ne nR] at ev
        rw [z, ev] at hD
        cases hD
      dsimp only [gName]
      refine seq_post (fun σ' H' => SameB B H4 H' ∧ Board K H' B A m2 ∧ ∃ D' row x7 x8, H' D' = some (.lst (row.map V.int)) ∧ RowOk c n row ∧ D' ≠ R ∧ D' ≠ B ∧ σ' = [some (.ref B), some (.int c), some (.int n), some (.int most), some (.ref R), some (.int i), some (.ref D'), x7, x8]) (fun σ' H' ⟨s5, hb5, D', row, x7, x8, eD', okr, nD'R, nD'B, eσ⟩ => ?_) (fun rest => ?_)
      · subst eσ
        obtain ⟨vs, ev, hvs⟩ := rl4.same s5
        rw [del_ne nR] at ev
        have lvs : vs.length = i := by rw [dpa_length hvs, List.length_map, hlen]
        have s45 := s34.trans s5
        refine ⟨_, rfl, .inl ⟨rfl, _, .of ev⟩, _, rfl, R, vs, _, rfl, rfl, ev, by omega, sameB_put hR s45, hb.put s45 hb5 hR, ⟨rs ++ [row], ⟨vs ++ [.ref D'], by rw [del_ne nR]; exact upd_same, ?_⟩, fun r hr => ?_, by rw [List.length_append, hlen]; rfl⟩, _, _, _, _, rfl⟩
        · rw [List.map_append]
          have sm : Same (del (del H' B) R) (del (del (upd H' R (.lst (vs ++ [.ref D']))) B) R) := fun b u e => by
            have b1 : b ≠ R := fun z => by rw [z, del_at] at e; cases e
            rw [del_ne b1] at e
            have b2 : b ≠ B := fun z => by rw [z, del_at] at e; cases e
            rw [del_ne b2] at e
            rw [del_ne b1, del_ne b2, upd_ne b1]
            exact e
          exact dpa_app (.cons (dp_L (.of (sm _ _ (by rw [del_ne nD'R, del_ne nD'B]; exact eD')))) .nil) (dpa_same sm hvs)
        · rcases List.mem_append.mp hr with hr | hr
          · exact hok r hr
          · have e : r = row := by simpa using hr
            rw [e]
            exact okr
      · have rlH := rl4.same (same_del (D := B))
        obtain ⟨vs, ev, hvs⟩ := rl4
        rw [del_ne nR] at ev
        obtain ⟨a', us', ea', hus', pr'⟩ := rlH.lrows
        cases ea'
        obtain ⟨ds, hds, l1, l2⟩ := rows_dat pr'
        refine ⟨_, rfl, (by show 0 ≤ sizeLine; decide), fun p hp => ?_⟩
        have s6 : Same H4 (upd H4 p (.lst [])) := same_upd hp
        refine ⟨.list ds, .list [], .lst (s6.seq hus') (dpa_same s6 hds), .lst (.of upd_same) .nil, shaped_lst l1 l2, shaped_nil, _, rfl, ?_⟩
        rw [eqv_nil]
        have okns : RowOk c n ns := ⟨ln, hns⟩
        have start : ∀ H' x7 x8, SameB B H4 H' → Board K H' B A m2 → SameB B H4 H' ∧ Board K H' B A m2 ∧ ∃ D' row y7 y8, H' D' = some (.lst (row.map V.int)) ∧ RowOk c n row ∧ D' ≠ R ∧ D' ≠ B ∧ [some (V.ref B), some (V.int c), some (V.int n), some (V.int most), some (V.ref R), some (V.int i), some (V.ref D), x7, x8] = [some (V.ref B), some (V.int c), some (V.int n), some (V.int most), some (V.ref R), some (V.int i), some (V.ref D'), y7, y8] := fun H' x7 x8 s b => ⟨s, b, D, ns, x7, x8, sameB_get nDB s eD, okns, nDR, nDB, rfl⟩
        have hb6 : Board K (upd H4 p (.lst [])) B A (m2 + 1) := hb4.same s6
        have eD6 := s6 _ _ eD
        have ev6 := s6 _ _ ev
        have sb6 : SameB B H4 (upd H4 p (.lst [])) := SameB.of s6
        generalize upd H4 p (.lst []) = H6 at hb6 eD6 ev6 sb6
        have ld : ds.length = rs.length := by rw [← dpa_length hds, Paired.length pr']
        cases rs with
        | nil =>
          have e : ds = [] := List.eq_nil_of_length_eq_zero ld
          subst e
          exact iteF (rest _ _ (start _ _ _ sb6 (hb6.le (by omega))))
        | cons r0 rs' =>
          have e : ds.isEmpty = false := by
            cases ds with
            | nil => cases ld
            | cons _ _ => rfl
          rw [e]
          refine iteT ⟨_, rfl, B, A, m2, 4, rfl, hb6, by omega, by omega, fun H7 v s7 hb7 v0 v1 => ⟨rfl, _, rfl, ?_⟩⟩
          by_cases hv : v = 0
          · rw [hv]
            refine iteT ?_
            have ev7 := sameB_get nR s7 ev6
            have okr0 := hok r0 List.mem_cons_self
            have hvs7 : DpAll K (del H7 B) vs ((r0 :: rs').map dL) := dpa_same (same_del.trans (sb6.trans s7)) hvs
            match vs, hvs7, ev7 with
            | _ :: vs', .cons d _, ev7 =>
              obtain ⟨b, rfl, hb0⟩ := dp_L' d
              have hb7' := same_del.seq hb0
              refine ⟨_, rfl, R, _, 0, .ref b, rfl, rfl, .of ev7, atI_nat (j := 0) rfl, b, rfl, _, .inl hb7', fun J G wk hG D2 hD2 => ?_⟩
              rw [List.length_map] at wk
              refine lc_val wk (fun j => .int (3 * r0.getD j 0 % c)) hD2 (by rw [okr0.1]; omega) hG (fun j x Hc Hd N hj s8 _ y k => ?_) (fun H8 s8 eD2 => ?_)
              · obtain ⟨rfl, hu⟩ := y
                obtain ⟨z, hz, rfl⟩ := int_get hu
                have kk := k Hd (Same.refl _)
                rw [getD_of hz] at kk
                exact ⟨rfl, _, rfl, 3, z, rfl, rfl, .inl ⟨by decide, by decide⟩, .inl ⟨_, rfl, _, rfl, _, _, rfl, rfl, c0, kk⟩⟩
              · have z := map_range_getD r0 0 fun x => V.int (3 * x % c)
                rw [z] at eD2
                have n1' := hb7.ne hD2
                have n2' : D2 ≠ R := ne_of_none' ev7 hD2
                refine rest _ _ ⟨(sb6.trans s7).trans (SameB.of s8), hb7.same s8, D2, r0.map (fun x => 3 * x % c), _, _, by rw [eD2, List.map_map]; rfl, ⟨by rw [List.length_map, okr0.1], fun x hx => ?_⟩, n2', n1', rfl⟩
                obtain ⟨y, _, rfl⟩ := List.mem_map.mp hx
                exact ⟨Int.emod_nonneg _ (by omega), Int.emod_lt_of_pos _ c0⟩
          · rw [decide_eq_false (fun z => hv (V.int.inj z))]
            exact iteF (rest _ _ (start _ _ _ (sb6.trans s7) hb7))
  · rintro σ Ha ⟨s3, hb3, ⟨rs, rl, hok, hlen⟩, x5, x6, x7, x8, rfl⟩
    exact ⟨_, rfl, q _ _ rs s3 (hb3.le (by omega)) rl hok (by omega)⟩
end
end K61

set_option Elab.async false
set_option linter.all false
set_option maxRecDepth 100000
set_option maxHeartbeats 4000000
/-! The walks: Space.__eq__. -/
namespace K61
open PySem PySem.Spec PyProof.Rows L2
/-- what == of two spaces says -/
def EqS (K : PySem.W.Frag) (C : Addr) (a b : Addr) (H : Hp) : Prop := ∃ c n rows, SpaceAt K H C (.ref a) c n rows ∧ SpaceAt K H C (.ref b) c n rows
theorem dat_rows : ∀ rs : List (List Int), PyData.canLayAll0 (rs.map dT) = true ∧ PyData.depthAll (rs.map dT) ≤ 1
  | [] => ⟨rfl, by decide⟩
  | r :: rs => by
    obtain ⟨a, b⟩ := dat_rows rs
    obtain ⟨k1, k2⟩ := dat_row false r
    refine ⟨?_, ?_⟩
    · show (PyData.canLay0 (dT r) && PyData.canLayAll0 (rs.map dT)) = true
      rw [a, show PyData.canLay0 (dT r) = true from k1]
      rfl
    · show max (PyData.depth (dT r)) (PyData.depthAll (rs.map dT)) ≤ 1
      rw [show PyData.depth (dT r) = 1 from k2]
      omega
theorem dat_space (c : Int) (n : Int) (rs : List (List Int)) : PyData.canLay0 (.tuple [.int c, .int n, dTT rs]) = true ∧ SeqAt.shaped (.tuple [.int c, .int n, dTT rs]) = true := by
  obtain ⟨a, b⟩ := dat_rows rs
  have h1 : PyData.canLay0 (.tuple [.int c, .int n, dTT rs]) = true := by
    show (PyData.canLay0 (.int c) && (PyData.canLay0 (.int n) && (PyData.canLayAll0 (rs.map dT) && true))) = true
    rw [a]
    rfl
  refine ⟨h1, ?_⟩
  unfold SeqAt.shaped
  rw [h1]
  have h2 : PyData.depth (.tuple [.int c, .int n, dTT rs]) ≤ 3 := by
    show max 0 (max 0 (max (PyData.depthAll (rs.map dT) + 1) 0)) + 1 ≤ 3
    omega
  exact decide_eq_true (by omega)
section
variable {P : Program} {w : World} {K : PySem.W.Frag} {mg : Str → Option Value} {base : Heap} {f : Addr} {fd : FuncData} {C : Addr}
theorem ok_eq (B : Bi mg) (S : SpC K mg C) (I : SpI K C) (F : FunD K "__eq__" "Space.__eq__" (defArgs s_Space___eq) (defBody s_Space___eq) (defScope s_Space___eq) [] [] f fd) : FnOk P w K mg base CX0 1 f fd ["self", "other"] (spEq (EqS K C)) := by
  have nd := sc_Space___eq.nd
  refine okN F sc_Space___eq (fun vs H Q E h => by obtain ⟨a, b, rfl, _⟩ := h; rfl) (fun cdv A outer s H vs Q E hr h => ?_)
  refine ⟨_, (pss_cons (ps_if (pt_not (pt_val (pe_callB (kIsi K) rfl B.isinstance bt_isinstance (pa_cons (pv 1) (pa_cons (pe_glob (v := .ref C) rfl S.gC rfl) pa_nil))))) (pss_one (ps_ret pe_bl)) pss_nil)
      (pss_one (ps_ret (pe_cmpR (op_eqD hr.units) (pe_tup (pa_cons (kFld K (pv 0) rfl) (pa_cons (kFld K (pv 0) rfl) (pa_cons (kFld K (pv 0) rfl) pa_nil)))) (pe_tup (pa_cons (kFld K (pv 1) rfl) (pa_cons (kFld K (pv 1) rfl) (pa_cons (kFld K (pv 1) rfl) pa_nil)))) (nomark _))))), ?_⟩
  obtain ⟨a, b, rfl, ⟨c, n, rows, ha, hb⟩, q⟩ := h
  have ty := I.ty hb
  obtain ⟨a', dx, r, ea, ha1, ha2⟩ := ha
  cases ea
  obtain ⟨b', dy, r2, eb, hb1, hb2⟩ := hb
  cases eb
  refine ⟨_, rfl, _, _, _, _, true, rfl, .own C, ty, kit_self K C, _, rfl, iteF ?_⟩
  refine ⟨_, rfl, a, C, dx, _, _, rfl, ha1, S.cl, S.n1, rfl, _, rfl, a, C, dx, _, _, rfl, ha1, S.cl, S.n2, rfl, _, rfl, a, C, dx, _, _, rfl, ha1, S.cl, S.n3, rfl, (by show 3 ≤ sizeLine; decide), fun T1 hT1 => ?_⟩
  have s1 : Same H (upd H T1 (.tup [.int c, .int n, .ref r])) := same_upd hT1
  have e1 : upd H T1 (.tup [.int c, .int n, .ref r]) T1 = some (.tup [.int c, .int n, .ref r]) := upd_same
  generalize upd H T1 (.tup [.int c, .int n, .ref r]) = H1 at s1 e1
  refine ⟨_, rfl, b, C, dy, _, _, rfl, s1 _ _ hb1, S.cl, S.n1, rfl, _, rfl, b, C, dy, _, _, rfl, s1 _ _ hb1, S.cl, S.n2, rfl, _, rfl, b, C, dy, _, _, rfl, s1 _ _ hb1, S.cl, S.n3, rfl, (by show 3 ≤ sizeLine; decide), fun T2 hT2 => ?_⟩
  have s2 : Same H1 (upd H1 T2 (.tup [.int c, .int n, .ref r2])) := same_upd hT2
  obtain ⟨d1, d2⟩ := dat_space c n rows
  refine ⟨.tuple [.int c, .int n, dTT rows], .tuple [.int c, .int n, dTT rows], .tup (.of (s2 _ _ e1)) (.cons (.int _) (.cons (.int _) (.cons (dp_same (s1.trans s2) ha2) .nil))), .tup (.of upd_same) (.cons (.int _) (.cons (.int _) (.cons (dp_same (s1.trans s2) hb2) .nil))), d2, d2, ?_⟩
  rw [SeqAt.eqv_refl _ d1]
  exact q _ fun b o e => (s1.trans s2) b o e
end
end K61

set_option Elab.async false
set_option linter.all false
set_option maxRecDepth 100000
set_option maxHeartbeats 4000000
/-! Rules of our own: a call by keywords alone; a def whose promise rests on no repr being under way. -/
namespace K61
open PySem PySem.Spec PyProof.Rows L2
/-! ### f(k = v, ..) -/
/-- a def as its callers by keywords alone have it -/
structure CalK (P : Program) (w : World) (K : PySem.W.Frag) (mg : Str → Option Value) (base : Heap) (CX : CXT) (k : Nat) (x : Str) (ps ks : List Str) (gV : List V → List V → List V) (sp : Sp) : Prop where
  ex : ∃ (f : Addr) (fd : FuncData) (g : List Value → List Value → List Value), mg x = some (.ref f) ∧ PySem.W.keepIn K (.ref f) = true ∧ FnOk P w K mg base CX k f fd ps sp ∧ L2.KBn K fd ps 0 ks g gV
def tCallKw (m : Nat) (sp : Sp) (gV : List V → List V → List V) (E : XK) (tk : TA) : TE := fun σ H Q => tk σ H fun zs H2 => zs.length = m ∧ sp (gV [] zs) H2 Q E
section
variable {X : Cx}
theorem e_callKw {CX : CXT} {k : Nat} {x : Str} {ps ks : List Str} {gV : List V → List V → List V} {sp : Sp} {E : XK} {p pos : Pos} {kws : List Keyword} {tk : TA} (C : CalK X.prog X.w X.K X.mg X.base CX k x ps ks gV sp) (hr : Room k X.A) (hx : L2.Passes CX X E) (hkw : PK X kws tk) (hg : Gl X x := by rfl)
    (hall : (backToKw pos (keywordEach kws X.env)).all (·.1.isSome) = true := by rfl) (hks : (backToKw pos (keywordEach kws X.env)).filterMap (·.1) = ks := by rfl)
    (hdb : (x == ("__debug__" : Str)) = false := by decide) (hpl : ((backTo pos (starEach [] X.env)).any (·.1) || (backToKw pos (keywordEach kws X.env)).any (·.1.isNone)) = false := by rfl) :
    PE X (.Call (.Name x p) [] kws pos) (tCallKw ks.length sp gV E tk) := by
  obtain ⟨f, fd, g, h1, h2, h3, h4⟩ := C.ex
  refine ⟨fun pins s σ H Q I h => ?_⟩
  refine wpAny_Call_Name_kw (ld_glob I hg h1 ?_ hdb)
  refine PySem.W.callWith_KW0 (h₀ := X.base) I.ok.mod.kin h2 hall (thn (hkw.run pos pins s σ H _ I h) fun ws s2 ⟨zs, H2, I2, rz, l2, q2⟩ => ⟨I2.kIn, ?_⟩) hpl
  rw [hks]
  exact run_fnN h3 hr h4 hx I2 .nil rz rfl l2 q2
end
/-- binding by keywords alone, no defaults -/
theorem kbn0 {K : PySem.W.Frag} {x qual : Str} {params : Arguments} {body : List Stmt} {scope : Scope} {f : Addr} {fd : FuncData} {ps ks : List Str} (F : FunD K x qual params body scope [] [] f fd) (g : {α : Type} → List α → List α)
    (hrel : ∀ {zs : List V} {ws : List Value}, Vals zs ws → Vals (g zs) (g ws))
    (h : ∀ (kV doc pm : Value) (an : Option Addr) (cdv ct : Value) (ws : List Value), ws.length = ks.length → bindArgs (PySem.W.fnOf x qual params body scope .none kV doc pm an cdv ct) ⟨[], ks.zip ws⟩ = pure (ps.zip (g ws))) : L2.KBn K fd ps 0 ks (fun _ ws => g ws) (fun _ zs => g zs) := by
  obtain ⟨oc, od, dV, kV, doc, pm, an, cdv, ct, osl, rfl, lk, hcd, hD, hK⟩ := F.ex
  rcases hD with ⟨_, rfl⟩ | ⟨e, _⟩
  · refine ⟨fun s us ws X l1 l2 => ?_, fun r1 r2 => hrel r2⟩
    have e := List.eq_nil_of_length_eq_zero l1
    subst e
    exact .of_eq (h kV doc pm an cdv ct ws l2)
  · exact absurd rfl e
/-! ### no repr is under way -/
structure FnG (P : Program) (w : World) (K : PySem.W.Frag) (mg : Str → Option Value) (base : Heap) (CX : CXT) (k : Nat) (f : Addr) (fd : FuncData) (ps : List Str) (sp : Sp) : Prop where
  len : ∀ vs H Q E, sp vs H Q E → vs.length = ps.length
  run : ∀ (A : Around) (outer : List Env) (s : Shared) (H : Hp) (args : Args) (us : List Value) (vs : List V) (Q : VK) (E : XK), A.guards = some [] → Room k A → Env0 P w K mg base A outer s H → BindsTo s fd args (ps.zip us) → Vals vs us → sp vs H Q E →
    codeAny (model P w) A (.call (.ref f) args) (CR CX outer P w H s Q E) s
/-- the rule for such a def that lets nothing out (through run_ofS) -/
theorem okG {P : Program} {w : World} {K : PySem.W.Frag} {mg : Str → Option Value} {base : Heap} {x qual : Str} {params : Arguments} {body : List Stmt} {scope : Scope} {dvs : List V} {kws : List (Str × V)} {f : Addr} {fd : FuncData} {N ps : List Str} {k : Nat} {sp : Sp}
    (F : FunD K x qual params body scope dvs kws f fd) (S : FnScope N ps scope) (len : ∀ vs H Q E, sp vs H Q E → vs.length = ps.length)
    (hbody : ∀ (cdv : Value) (A : Around) (outer : List Env) (s : Shared) (H : Hp) (vs : List V) (Q : VK) (E : XK), (∃ (oc : Value) (od : Option Addr) (osl : Array (Option Value)), K.lookup f = some ⟨oc, od, .func fd, osl⟩ ∧ fd.code = cdv) → (A.deeper (envOfC qual scope s.heap.objs.size f cdv)).guards = some [] → Room k (A.deeper (envOfC qual scope s.heap.objs.size f cdv)) → sp vs H Q E →
      ∃ t, PSs (cxOf CX0 P w K mg base N qual scope f cdv A outer s H E).nox body t ∧ t { nx := fun _ H' => Q .non H', rt := Q } (L2.start N vs) H) : FnG P w K mg base CX0 (k + 1) f fd ps sp := by
  obtain ⟨oc, od, dV, kV, doc, pm, an, cdv, ct, osl, rfl, lk, hcd, _, _⟩ := F.ex
  refine ⟨len, fun A outer s H args us vs Q E hg hr e0 hb r hsp => ?_⟩
  refine LamX.run_ofS lk hcd S hr e0 hb r (len _ _ _ _ hsp) fun hr2 => ?_
  obtain ⟨t, a, b⟩ := hbody cdv A outer s H vs Q E ⟨_, _, _, lk, rfl⟩ hg hr2 hsp
  exact ⟨t, a.nox, b⟩
structure CalG (P : Program) (w : World) (K : PySem.W.Frag) (mg : Str → Option Value) (base : Heap) (CX : CXT) (k : Nat) (x : Str) (ps : List Str) (sp : Sp) : Prop where
  ex : ∃ (f : Addr) (fd : FuncData), mg x = some (.ref f) ∧ PySem.W.keepIn K (.ref f) = true ∧ FnG P w K mg base CX k f fd ps sp ∧ L2.Binds K fd ps []
section
variable {X : Cx}
theorem e_callG {CX : CXT} {k : Nat} {x : Str} {ps : List Str} {sp : Sp} {E : XK} {p pos : Pos} {e : Expr} {es : List Expr} {t : TA} (C : CalG X.prog X.w X.K X.mg X.base CX k x ps sp) (hgd : X.A.guards = some []) (hr : Room k X.A) (hx : L2.Passes CX X E) (ha : PA X (e :: es) t) (hg : Gl X x := by rfl)
    (hdb : (x == ("__debug__" : Str)) = false := by decide) (he : starEach (e :: es) X.env = (false, eval e X.env) :: starEach es X.env := by rfl) (hpl : (backTo pos (starEach es X.env)).any (·.1) = false := by rfl) :
    PE X (.Call (.Name x p) (e :: es) [] pos) (tCall sp [] E t) := by
  obtain ⟨f, fd, h1, h2, h3, h4⟩ := C.ex
  refine ⟨fun pins s σ H Q I h => ?_⟩
  refine wpAny_Call_Name_kw (ld_glob I hg h1 ?_ hdb)
  refine PySem.W.callWith_K (h₀ := X.base) I.ok.mod.kin h2 (thn (ha.run pos pins s σ H _ I h) fun us s1 ⟨vs, H1, I1, r, q⟩ => ⟨I1.kIn, ?_⟩) he hpl
  have r2 : Vals (vs ++ []) (us ++ []) := r.append .nil
  have hl : (us ++ []).length = ps.length := by rw [← r2.length]; exact h3.len _ _ _ _ q
  refine wpAny_call (codeAny_mono (h3.run X.A X.stack s1 H1 ⟨us, []⟩ (us ++ []) (vs ++ []) Q E hgd hr I1.env0 (h4 s1 us I1.kIn hl) r2 q) fun r s' hq => ?_)
  cases r with
  | error e => exact hx pins σ H1 s1 e s' I1 hq
  | ok fl =>
    cases fl with
    | ret u => exact I1.after hq
    | next => exact False.elim hq
    | brk => exact False.elim hq
    | cont => exact False.elim hq
end
end K61

set_option Elab.async false
set_option linter.all false
set_option maxRecDepth 100000
set_option maxHeartbeats 4000000
/-! The walks: the law's own look at spaces. -/
namespace K61
open PySem PySem.Spec PyProof.Rows L2
abbrev s_Lspaces_right : Stmt := top 76
abbrev N_Lspaces_right : List Str := ["_law_chessboard_here", "_law_clock", "_law_many", "_law_rows_here", "_law_due", "_law_told", "_law_own", "_law_some", "_law_space", "_law_spaces", "_law_row", "_law_each"]
theorem sc_Lspaces_right : FnScope N_Lspaces_right ["_law_chessboard_here", "_law_clock", "_law_many"] (defScope s_Lspaces_right) := ⟨rfl, rfl, rfl, by decide +kernel, rfl, by decide +kernel, by decide +kernel⟩
/-- Space as == finds it -/
structure EqM (P : Program) (w : World) (K : PySem.W.Frag) (mg : Str → Option Value) (base : Heap) (C : Addr) : Prop where
  ex : ∃ (f : Addr) (fd : FuncData), FnOk P w K mg base CX0 1 f fd ["self", "other"] (spEq (EqS K C)) ∧ PySem.W.findIn K (.ref C) "__eq__" = some (some (.ref f)) ∧ PySem.W.isFn K (.ref f) = true ∧ L2.Binds K fd ["self", "other"] []
theorem op_eqS {X : Cx} {C : Addr} (M : EqM X.prog X.w X.K X.mg X.base C) (hr : Room 1 X.A) : OpR X (compareOp .Eq) (rEqG (DIns C (EqS X.K C))) := by
  obtain ⟨f, fd, h1, h2, h3, h4⟩ := M.ex
  exact op_eqG (rcG_ins h1 h2 h3 h4 pass0) hr
def budR (n most : Nat) : Nat := most * (2 * n + 1) + 1
def budS (m : Nat) : Nat := budR (2 * m + 2) 4 + budR m (min m 4)
def sp_spaces_right (K : PySem.W.Frag) : Sp := fun vs H Q _ => ∃ (B A : Addr) (c : Int) (m n : Nat), vs = [.ref B, .int c, .int m] ∧ Board K H B A (n + budS m) ∧ Clock c ∧ 1 ≤ m ∧ m ≤ 7 ∧ ∀ H', SameB B H H' → Board K H' B A n → Q (.bl true) H'
theorem made2 {K : PySem.W.Frag} {H : Hp} {C : Addr} {c z : Int} {n : Nat} {y : V} {rs : List (List Int)} {Q : Addr → Hp → Prop} {E : XK} (hz : z = ((n : Nat) : Int)) (hy : RowsV K H y rs) (hc : Clock c) (n1 : 1 ≤ n) (n2 : n ≤ 400) (hok : ∀ r ∈ rs, RowOk c n r) (hlen : rs.length ≤ 400)
    (q : ∀ H' a, Same H H' → SpaceAt K H' C (.ref a) c n (leastIn c rs) → Q a H') :
    ∀ x dx, H x = none → H dx = none → dx ≠ x → sp_init K C (.ref x :: ([.int c, .int z, y] ++ [])) (upd (upd H dx (.own x)) x (.ins C dx [])) (fun v H2 => v = .non ∧ Q x H2) E := by
  subst hz
  intro x dx h1 h2 h3
  have z' := made (Q := fun v H' => ∃ a, v = .ref a ∧ Q a H') (E := E) hy hc n1 n2 hok hlen (fun H' v s h => by
    obtain ⟨a, dx, r, e, h1, h2⟩ := id h
    subst e
    exact ⟨a, rfl, q H' a s h⟩) x dx h1 h2 h3
  obtain ⟨x', dx', c', n', y', rs', e, g1, g2, g3, g4, g5, g6, g7, g8⟩ := z'
  refine ⟨x', dx', c', n', y', rs', e, g1, g2, g3, g4, g5, g6, g7, fun H' r a1 a2 a3 => ?_⟩
  obtain ⟨e1, a, e2, e3⟩ := g8 H' r a1 a2 a3
  cases e2
  exact ⟨e1, e3⟩
theorem line16 : sizeLine = 16777216 := by decide
theorem rep_space {c z : Int} {n : Nat} {rs : List (List Int)} (hc : Clock c) (z0 : 0 ≤ z) (z1 : z < 1000) (h : ∀ r ∈ rs, RowOk c n r) (hn : n ≤ 100) (hl : rs.length ≤ 100) : RepW (.list [.int c, .int z, dTT rs]) 3 300000 := by
  have c0 := hc.pos
  have c1 := hc.le
  refine (RepW.lst (k := 2) (l := 71000) fun d hd => ?_).mono (Nat.le_refl _) (by show 3 + (71000 + 2) * 3 ≤ 300000; decide)
  rcases List.mem_cons.mp hd with rfl | hd
  · exact (RepW.int (by omega) (by omega)).mono (by decide) (by decide)
  · rcases List.mem_cons.mp hd with rfl | hd
    · exact (RepW.int z0 z1).mono (by decide) (by decide)
    · have e : d = dTT rs := by simpa using hd
      rw [e]
      exact rep_rows hc h hn hl
theorem rep_two {c : Int} {n : Nat} {as bs : List (List Int)} (hc : Clock c) (h : ∀ r ∈ as, RowOk c n r) (h2 : ∀ r ∈ bs, RowOk c n r) (hn : n ≤ 100) (hl : as.length ≤ 100) (hl2 : bs.length ≤ 100) : RepW (.list [dTT as, dTT bs]) 3 300000 := by
  refine (RepW.lst (k := 2) (l := 71000) fun d hd => ?_).mono (Nat.le_refl _) (by show 3 + (71000 + 2) * 2 ≤ 300000; decide)
  rcases List.mem_cons.mp hd with rfl | hd
  · exact rep_rows hc h hn hl
  · have e : d = dTT bs := by simpa using hd
    rw [e]
    exact rep_rows hc h2 hn hl2
theorem dpTT_del {K : PySem.W.Frag} {H : Hp} {D : Addr} {ys : List V} {v : V} {rs : List (List Int)} (h : Dp K H v (dTT rs)) (hD : H D = some (.lst ys)) : Dp K (del H D) v (dTT rs) := by
  obtain ⟨a, vs, rfl, q, p⟩ := dp_tup' h
  have main : ∀ {vs : List V} {rs : List (List Int)}, DpAll K H vs (rs.map dT) → DpAll K (del H D) vs (rs.map dT) := by
    intro vs rs
    induction rs generalizing vs with
    | nil =>
      intro p
      cases p
      exact .nil
    | cons r rs ih =>
      intro p
      cases p with
      | cons a b => exact .cons (dpT_del a hD) (ih b)
  exact .tup (tup_del q hD) (main p)
theorem ring_ok {m : Nat} (h1 : 1 ≤ m) (h2 : m ≤ 7) : ringB (2 * (m + 1)) = true := decide_eq_true (by omega)
section
variable {P : Program} {w : World} {K : PySem.W.Frag} {mg : Str → Option Value} {base : Heap} {f : Addr} {fd : FuncData} {C Cs Cm : Addr}
theorem ok_spaces_right (Bu : Bi mg) (S : SpC K mg C) (I : SpI K C) (m_Space : SpM P w K mg base C) (m_eq : EqM P w K mg base C)
    (c__law_rows : Cal P w K mg base CX0 3 "_law_rows" ["_law_chessboard_here", "_law_clock", "_law_size", "_law_most"] [] (sp_Lrows K))
    (c__law_fair : Cal P w K mg base CX0 4 "_law_fair" ["_law_clock", "_law_many", "_law_rows_here"] [] (sp_Lfair K))
    (c__law_least : Cal P w K mg base CX0 2 "_law_least" ["_law_clock", "_law_rows_here"] [] (sp_Lleast K))
    (c__law_upright : Cal P w K mg base CX0 3 "_law_upright" ["_law_clock", "_law_size", "_law_rows_here"] [] (sp_Lupright K))
    (c__law_whites : Cal P w K mg base CX0 1 "_law_whites" ["_law_clock", "_law_row"] [] (sp_Lrowf K whitesOf))
    (c__law_blacks : Cal P w K mg base CX0 1 "_law_blacks" ["_law_clock", "_law_row"] [] (sp_Lrowf K blacksOf))
    (c_fair_of : Cal P w K mg base (L2.CX P w) 11 "fair_of" ["space"] [] (sp_fair_of K C Cs Cm))
    (k_fair_of : CalK P w K mg base (L2.CX P w) 11 "fair_of" ["space"] ["space"] (fun _ zs => zs) (sp_fair_of K C Cs Cm))
    (c_white_space : Cal P w K mg base (L2.CX P w) 7 "white_space" ["space"] [] (sp_half K C Cs Cm whitesOf))
    (k_white_space : CalK P w K mg base (L2.CX P w) 7 "white_space" ["space"] ["space"] (fun _ zs => zs) (sp_half K C Cs Cm whitesOf))
    (c_black_space : Cal P w K mg base (L2.CX P w) 7 "black_space" ["space"] [] (sp_half K C Cs Cm blacksOf))
    (k_black_space : CalK P w K mg base (L2.CX P w) 7 "black_space" ["space"] ["space"] (fun _ zs => zs) (sp_half K C Cs Cm blacksOf))
    (F : FnP K "_law_spaces_right" s_Lspaces_right f fd) : FnG P w K mg base CX0 12 f fd ["_law_chessboard_here", "_law_clock", "_law_many"] (sp_spaces_right K) := by
  have nd := sc_Lspaces_right.nd
  have B := Bu
  refine okG F sc_Lspaces_right (fun vs H Q E h => by obtain ⟨B, A, c, m, n, rfl, _⟩ := h; rfl) (fun cdv A outer s H vs Q E _ hgd hr h => ?_)
  have hr__law_rows : Room 3 _ := hr.mono (by decide)
  have hr__law_fair : Room 4 _ := hr.mono (by decide)
  have hr__law_least : Room 2 _ := hr.mono (by decide)
  have hr__law_upright : Room 3 _ := hr.mono (by decide)
  have hr__law_whites : Room 1 _ := hr.mono (by decide)
  have hr__law_blacks : Room 1 _ := hr.mono (by decide)
  have hr_fair_of := hr
  have hr_white_space : Room 7 _ := hr.mono (by decide)
  have hr_black_space : Room 7 _ := hr.mono (by decide)
  have hr_Space : Room 6 _ := hr.mono (by decide)
  have hr_eq : Room 1 _ := hr.mono (by decide)
  refine ⟨_, (pss_cons (ps_asg (e_call c__law_rows hr__law_rows pass0 (pa_cons (pv 0) (pa_cons (pv 1) (pa_cons (pv 2) (pa_cons (pe_callB (call_min2 rfl) rfl B.min bt_min (pa_cons (pv 2) (pa_cons pe_int pa_nil))) pa_nil))))) (pgn 3 nd))
      (pss_cons (ps_par (i := 4) (j := 5) rfl nd rfl rfl (by decide) rfl rfl (pa_cons (e_call c__law_fair hr__law_fair pass0 (pa_cons (pv 1) (pa_cons (pv 2) (pa_cons (pv 3) pa_nil)))) (pa_cons (e_call c_fair_of hr_fair_of passL (pa_cons (e_space m_Space hr_Space (pa_cons (pv 1) (pa_cons (pv 2) (pa_cons (pv 3) pa_nil)))) pa_nil)) pa_nil)) rfl)
      (pss_cons (ps_if (PW.pt (pw_or (pt_not (pt_val (pe_callB (kIsi K) rfl B.isinstance bt_isinstance (pa_cons (pv 5) (pa_cons (pe_glob (v := .ref C) rfl S.gC rfl) pa_nil))))) (pw_or (pt_cmpR op_ne (pe_callB (call_rep hgd hr.units) rfl B.repr bt_repr (pa_cons (pe_lst (pa_cons (kFld K (pv 5) rfl) (pa_cons (kFld K (pv 5) rfl) (pa_cons (kFld K (pv 5) rfl) pa_nil)))) pa_nil)) (pe_callB (call_rep hgd hr.units) rfl B.repr bt_repr (pa_cons (pe_lst (pa_cons (pv 1) (pa_cons (pe_op op_add (pe_op op_mul pe_int (pv 2)) pe_int) (pa_cons (pv 4) pa_nil)))) pa_nil)) (nomark _)) (pw_or1 (pt_not (pt_cmpR (op_eqS m_eq hr_eq) (e_callKw k_fair_of hr_fair_of passL (pk_cons (e_space m_Space hr_Space (pa_cons (pv 1) (pa_cons (pv 2) (pa_cons (pv 3) pa_nil)))) pk_nil)) (pv 5) (nomark _))))))) (pss_one (ps_ret pe_bl)) pss_nil)
      (pss_cons (ps_asg (pe_lst (pa_cons (e_call c__law_least hr__law_least pass0 (pa_cons (pv 1) (pa_cons (pv 3) pa_nil))) (pa_cons (e_call c__law_upright hr__law_upright pass0 (pa_cons (pv 1) (pa_cons (pv 2) (pa_cons (pv 3) pa_nil)))) pa_nil))) (pgn 6 nd))
      (pss_cons (ps_if (pt_cmpR op_ne (pe_callB (call_rep hgd hr.units) rfl B.repr bt_repr (pa_cons (pe_lst (pa_cons (kFld K (e_call c_white_space hr_white_space passL (pa_cons (e_space m_Space hr_Space (pa_cons (pv 1) (pa_cons (pe_op op_add (pe_op op_mul pe_int (pv 2)) pe_int) (pa_cons (pv 4) pa_nil)))) pa_nil)) rfl) (pa_cons (kFld K (e_call c_black_space hr_black_space passL (pa_cons (e_space m_Space hr_Space (pa_cons (pv 1) (pa_cons (pe_op op_add (pe_op op_mul pe_int (pv 2)) pe_int) (pa_cons (pv 4) pa_nil)))) pa_nil)) rfl) pa_nil))) pa_nil)) (pe_callB (call_rep hgd hr.units) rfl B.repr bt_repr (pa_cons (pv 6) pa_nil)) (nomark _)) (pss_one (ps_ret pe_bl)) pss_nil)
      (pss_cons (ps_asg (e_call c__law_rows hr__law_rows pass0 (pa_cons (pv 0) (pa_cons (pv 1) (pa_cons (pe_op op_add (pe_op op_mul pe_int (pv 2)) pe_int) (pa_cons pe_int pa_nil))))) (pgn 7 nd))
      (pss_cons (ps_asg (pe_lst (pa_cons (e_call c__law_least hr__law_least pass0 (pa_cons (pv 1) (pa_cons (pe_lc (own := [("_law_row", 10)]) rfl nd (pi_list (pv 7)) (blkOk_by (N := N_Lspaces_right) (sc := (defScope s_Lspaces_right)) (by decide +kernel)) (fun _ _ _ _ _ => by exact (pgn 10 nd)) (fun _ _ _ _ _ => by exact pts_nil) (fun _ _ _ _ _ => by exact (e_call c__law_whites hr__law_whites pass0 (pa_cons (pv 1) (pa_cons (pv 10) pa_nil))))) pa_nil))) (pa_cons (e_call c__law_least hr__law_least pass0 (pa_cons (pv 1) (pa_cons (pe_lc (own := [("_law_row", 10)]) rfl nd (pi_list (pv 7)) (blkOk_by (N := N_Lspaces_right) (sc := (defScope s_Lspaces_right)) (by decide +kernel)) (fun _ _ _ _ _ => by exact (pgn 10 nd)) (fun _ _ _ _ _ => by exact pts_nil) (fun _ _ _ _ _ => by exact (e_call c__law_blacks hr__law_blacks pass0 (pa_cons (pv 1) (pa_cons (pv 10) pa_nil))))) pa_nil))) pa_nil))) (pgn 6 nd))
      (pss_cons (ps_asg (e_space m_Space hr_Space (pa_cons (pv 1) (pa_cons (pe_op op_add (pe_op op_mul pe_int (pv 2)) pe_int) (pa_cons (pv 7) pa_nil)))) (pgn 8 nd))
      (pss_cons (ps_asg (pe_lst (pa_cons (e_call c_white_space hr_white_space passL (pa_cons (pv 8) pa_nil)) (pa_cons (e_call c_black_space hr_black_space passL (pa_cons (pv 8) pa_nil)) (pa_cons (e_callKw k_white_space hr_white_space passL (pk_cons (pv 8) pk_nil)) (pa_cons (e_callKw k_black_space hr_black_space passL (pk_cons (pv 8) pk_nil)) pa_nil))))) (pgn 9 nd))
      (pss_one (ps_ret (pe_cmpR op_eq (pe_callB (call_rep hgd hr.units) rfl B.repr bt_repr (pa_cons (pe_lc (own := [("_law_each", 11)]) rfl nd (pi_list (pv 9)) (blkOk_by (N := N_Lspaces_right) (sc := (defScope s_Lspaces_right)) (by decide +kernel)) (fun _ _ _ _ _ => by exact (pgn 11 nd)) (fun _ _ _ _ _ => by exact pts_nil) (fun _ _ _ _ _ => by exact (pe_lst (pa_cons (kFld K (pv 11) rfl) (pa_cons (kFld K (pv 11) rfl) (pa_cons (kFld K (pv 11) rfl) pa_nil)))))) pa_nil)) (pe_callB (call_rep hgd hr.units) rfl B.repr bt_repr (pa_cons (pe_lc (own := [("_law_each", 11)]) rfl nd (pi_list (pe_op op_rep (pv 6) pe_int)) (blkOk_by (N := N_Lspaces_right) (sc := (defScope s_Lspaces_right)) (by decide +kernel)) (fun _ _ _ _ _ => by exact (pgn 11 nd)) (fun _ _ _ _ _ => by exact pts_nil) (fun _ _ _ _ _ => by exact (pe_lst (pa_cons (pv 1) (pa_cons (pv 2) (pa_cons (pv 11) pa_nil)))))) pa_nil)) (nomark _))))))))))))), ?_⟩
  clear B
  obtain ⟨B, A, c, m, n, rfl, hb, hc, m1, m7, q⟩ := h
  have c1 := hc.le
  have m0 : (m : Int) ≤ 7 := by omega
  have emin : (if (4 : Int) < (m : Int) then (4 : Int) else (m : Int)) = ((min m 4 : Nat) : Int) := by
    by_cases h4 : (4 : Int) < m
    · rw [if_pos h4]
      omega
    · rw [if_neg h4]
      omega
  have hb' : Board K H B A (n + budR (2 * m + 2) 4 + min m 4 * (2 * m + 1) + 1) := by
    have e : n + budS m = n + budR (2 * m + 2) 4 + min m 4 * (2 * m + 1) + 1 := by
      show n + (budR (2 * m + 2) 4 + (min m 4 * (2 * m + 1) + 1)) = _
      rw [← Nat.add_assoc, ← Nat.add_assoc]
    rw [e] at hb
    exact hb
  refine ⟨_, rfl, _, rfl, _, rfl, _, rfl, (m : Int), 4, rfl, B, A, c, m, min m 4, n + budR (2 * m + 2) 4, by rw [emin]; rfl, hb', hc, m1, by omega, by omega, fun H1 R rs s1 hb1 rl hok hlen => ?_⟩
  dsimp only [gName]
  have hlen4 : rs.length ≤ 4 := by omega
  have rl1 : RL K H1 R rs := rl.same same_del
  refine ⟨_, rfl, _, rfl, _, rfl, c, m, _, rs, rfl, rl1.lrows, hc, hok, m1, by omega, by omega, fun H2 vD s2 hD => ?_⟩
  refine ⟨_, rfl, _, rfl, _, rfl, ?_⟩
  refine made2 (K := K) (C := C) rfl (rl1.same s2).rows hc m1 (by omega) hok (by omega) fun H3 aS s3 hS => ?_
  refine ⟨.ref aS, rfl, .inl ⟨c, m, formOf c rs, hS, fun _ => ⟨hc, m1, formOf_red hc hok, fun H4 vT s4 hT => ⟨_, _, rfl, ?_⟩⟩, fun h => by omega⟩⟩
  rw [fair_same hc hok] at hT
  have s34 := s3.trans s4
  have hD4 := hD.same s34
  have lf := lawFair_ok hc hok
  have okX := leastIn_ok hc lf
  have lenX := leastIn_len hc lf
  generalize hX : leastIn c (lawFair c m rs) = X at hT hD4 okX lenX
  have tyT := I.ty hT
  have hT0 := hT
  obtain ⟨aT, dxT, rT, rfl, hT1, hT2⟩ := hT
  have ez : 2 * (m : Int) + 2 = ((2 * (m + 1) : Nat) : Int) := by omega
  have rw1 := rep_space hc (show 0 ≤ 2 * (m : Int) + 2 by omega) (by omega) okX (by omega) (by omega)
  have l16 := line16
  have rl4 : RL K H4 R rs := rl1.same (s2.trans s34)
  -- if not isinstance(told, Space) or repr(..) != repr(..) or not fair_of(space=..) == told
  show tSeq _ _ _ _ _
  refine ⟨_, rfl, _, _, _, _, true, rfl, .own C, tyT, kit_self K C, _, rfl, iteF ?_⟩
  refine ⟨_, rfl, aT, C, dxT, _, _, rfl, hT1, S.cl, S.n1, rfl, _, rfl, aT, C, dxT, _, _, rfl, hT1, S.cl, S.n2, rfl, _, rfl, aT, C, dxT, _, _, rfl, hT1, S.cl, S.n3, rfl, (by show 3 ≤ sizeLine; decide), fun p1 hp1 => ?_⟩
  have t1 : Same H4 (upd H4 p1 (.lst [.int c, .int ((2 * (m + 1) : Nat) : Int), .ref rT])) := same_upd hp1
  have e1 : upd H4 p1 (.lst [.int c, .int ((2 * (m + 1) : Nat) : Int), .ref rT]) p1 = some (.lst [.int c, .int ((2 * (m + 1) : Nat) : Int), .ref rT]) := upd_same
  generalize upd H4 p1 (.lst [.int c, .int ((2 * (m + 1) : Nat) : Int), .ref rT]) = H5 at t1 e1
  rw [ez] at rw1
  refine ⟨p1, .list [.int c, .int ((2 * (m + 1) : Nat) : Int), dTT X], rfl, .lst (.of e1) (.cons (.int _) (.cons (.int _) (.cons (dp_same t1 hT2) .nil))), rw1.s, rw1.h, Nat.le_trans rw1.dp (by decide), Nat.le_trans rw1.ln (by omega), ?_⟩
  obtain ⟨aD, usD, rfl, hD5, hD5', hD5''⟩ := hD4.same t1
  refine ⟨_, rfl, _, rfl, 2, (m : Int), rfl, rfl, .inl ⟨by decide, by decide⟩, _, _, rfl, rfl, _, rfl, (by show 3 ≤ sizeLine; decide), fun p2 hp2 => ?_⟩
  have t2 : Same H5 (upd H5 p2 (.lst [.int c, .int (2 * (m : Int) + 2), .ref aD])) := same_upd hp2
  have e2 : upd H5 p2 (.lst [.int c, .int (2 * (m : Int) + 2), .ref aD]) p2 = some (.lst [.int c, .int (2 * (m : Int) + 2), .ref aD]) := upd_same
  generalize upd H5 p2 (.lst [.int c, .int (2 * (m : Int) + 2), .ref aD]) = H6 at t2 e2
  have hD6 : FrzRows K H6 (.ref aD) X := FrzRows.same t2 ⟨aD, usD, rfl, hD5, hD5', hD5''⟩
  have t46 := t1.trans t2
  rw [ez] at e2
  refine ⟨p2, .list [.int c, .int ((2 * (m + 1) : Nat) : Int), dTT X], rfl, .lst (.of e2) (.cons (.int _) (.cons (.int _) (.cons hD6.dp .nil))), rw1.s, rw1.h, Nat.le_trans rw1.dp (by decide), Nat.le_trans rw1.ln (by omega), ?_⟩
  refine ⟨rfl, _, rfl, ?_⟩
  rw [decide_eq_true rfl]
  refine iteF ?_
  -- not fair_of(space=Space(..)) == told
  refine ⟨_, rfl, _, rfl, _, rfl, ?_⟩
  refine made2 (K := K) (C := C) rfl (rl4.same t46).rows hc m1 (by omega) hok (by omega) fun H7 aS s7 hS => ?_
  refine ⟨rfl, .ref aS, rfl, .inl ⟨c, m, formOf c rs, hS, fun _ => ⟨hc, m1, formOf_red hc hok, fun H8 vU s8 hU => ?_⟩, fun h => by omega⟩⟩
  rw [fair_same hc hok, hX] at hU
  have s48 := (t46.trans s7).trans s8
  have hT8 := hT0.same s48
  obtain ⟨aU, dxU, rU, rfl, hU1, hU2⟩ := id hU
  obtain ⟨aT', dxT', rT', eT, hT81, hT82⟩ := id hT8
  cases eT
  refine ⟨_, rfl, ⟨aU, aT, dxU, dxT', _, _, rfl, rfl, hU1, hT81, c, 2 * (m + 1), X, hU, hT8⟩, fun H9 s9 => ⟨_, rfl, iteF ?_⟩⟩
  show tSeq _ _ _ _ _
  have s49 : Same H4 H9 := s48.trans s9
  have rl9 := rl4.same s49
  have up0 := upRows_ok (n := m) (F := formOf c rs) hc
  have okU := leastIn_ok hc up0
  have lenU := leastIn_len hc up0
  have okR := leastIn_ok hc hok
  have lenR := leastIn_len hc hok
  refine ⟨_, rfl, _, rfl, c, m, _, rs, rfl, rl9.lrows, hc, hok, by omega, by omega, fun H10 v1 s10 h1 => ⟨_, rfl, _, rfl, _, rfl, c, m, _, rs, rfl, (rl9.same s10).lrows, hc, hok, by omega, by omega, fun H11 v2 s11 h2 => ⟨(by show 2 ≤ sizeLine; decide), fun pO hpO => ?_⟩⟩⟩
  have t12 : Same H11 (upd H11 pO (.lst [v1, v2])) := same_upd hpO
  have eO : upd H11 pO (.lst [v1, v2]) pO = some (.lst [v1, v2]) := upd_same
  dsimp only [gName]
  generalize upd H11 pO (.lst [v1, v2]) = H12 at t12 eO ⊢
  have h1' := dp_same (s11.trans t12) h1.dp
  have h2' := dp_same t12 h2
  have s4c : Same H4 H12 := (s49.trans s10).trans (s11.trans t12)
  have s6c : Same H6 H12 := fun b o e => (((s7.trans s8).trans s9).trans s10).trans (s11.trans t12) b o e
  have hDc := (hD6.same s6c).dp
  -- if repr([white_space(..).rows, black_space(..).rows]) != repr(own)
  refine ⟨_, rfl, _, rfl, 2, (m : Int), rfl, rfl, .inl ⟨by decide, by decide⟩, _, _, rfl, rfl, _, rfl, ?_⟩
  refine made2 (K := K) (C := C) ez (rowsV_TT hDc) hc (by omega) (by omega) okX (by omega) fun H13 aP s13 hP => ?_
  refine ⟨.ref aP, rfl, .inl ⟨c, 2 * (m + 1), _, hP, fun _ => ⟨hc, leastIn_ok hc okX, Nat.le_trans (leastIn_len hc okX) (by omega), fun H14 vW s14 hW => ?_⟩, fun h => absurd (ring_ok m1 m7) (by rw [h]; decide)⟩⟩
  rw [← hX, fair_whites hc m1 hok] at hW
  obtain ⟨aW, dxW, rW, rfl, hW1, hW2⟩ := hW
  refine ⟨aW, C, dxW, _, _, rfl, hW1, S.cl, S.n3, rfl, ?_⟩
  have s1314 := s13.trans s14
  refine ⟨_, rfl, _, rfl, 2, (m : Int), rfl, rfl, .inl ⟨by decide, by decide⟩, _, _, rfl, rfl, _, rfl, ?_⟩
  refine made2 (K := K) (C := C) ez (rowsV_TT (dp_same s1314 hDc)) hc (by omega) (by omega) okX (by omega) fun H15 aP2 s15 hP2 => ?_
  refine ⟨.ref aP2, rfl, .inl ⟨c, 2 * (m + 1), _, hP2, fun _ => ⟨hc, leastIn_ok hc okX, Nat.le_trans (leastIn_len hc okX) (by omega), fun H16 vB s16 hB => ?_⟩, fun h => absurd (ring_ok m1 m7) (by rw [h]; decide)⟩⟩
  rw [← hX, fair_blacks hc m1 hok] at hB
  obtain ⟨aB, dxB, rB, rfl, hB1, hB2⟩ := hB
  refine ⟨aB, C, dxB, _, _, rfl, hB1, S.cl, S.n3, rfl, (by show 2 ≤ sizeLine; decide), fun p3 hp3 => ?_⟩
  have s1516 := s15.trans s16
  have t17 : Same H16 (upd H16 p3 (.lst [.ref rW, .ref rB])) := same_upd hp3
  have e3 : upd H16 p3 (.lst [.ref rW, .ref rB]) p3 = some (.lst [.ref rW, .ref rB]) := upd_same
  generalize upd H16 p3 (.lst [.ref rW, .ref rB]) = H17 at t17 e3
  have rw2 := rep_two hc okR okU (by omega) (by omega) (by omega)
  refine ⟨p3, .list [dTT (leastIn c rs), dTT (leastIn c (upRows c m (formOf c rs)))], rfl, .lst (.of e3) (.cons (dp_same (s1516.trans t17) hW2) (.cons (dp_same t17 hB2) .nil)), rw2.s, rw2.h, Nat.le_trans rw2.dp (by decide), Nat.le_trans rw2.ln (by omega), ?_⟩
  have s12_17 := (s1314.trans s1516).trans t17
  refine ⟨_, rfl, pO, .list [dTT (leastIn c rs), dTT (leastIn c (upRows c m (formOf c rs)))], rfl, .lst (.of (s12_17 _ _ eO)) (.cons (dp_same s12_17 h1') (.cons (dp_same s12_17 h2') .nil)), rw2.s, rw2.h, Nat.le_trans rw2.dp (by decide), Nat.le_trans rw2.ln (by omega), ?_⟩
  refine ⟨rfl, _, rfl, ?_⟩
  rw [decide_eq_true rfl]
  refine iteF ?_
  show tSeq _ _ _ _ _
  have s1_17 : Same H1 H17 := ((s2.trans s34).trans s4c).trans s12_17
  have hb17 : Board K H17 B A (n + 4 * (2 * (2 * (m + 1)) + 1) + 1) := hb1.same s1_17
  have sb17 : SameB B H H17 := s1.trans (SameB.of s1_17)
  refine ⟨_, rfl, _, rfl, _, rfl, 2, (m : Int), rfl, rfl, .inl ⟨by decide, by decide⟩, _, _, rfl, rfl, B, A, c, 2 * (m + 1), 4, n, by show [V.ref B, V.int c, V.int (2 * (m : Int) + 2), V.int 4] = _; rw [ez]; rfl, hb17, hc, by omega, by omega, by decide, fun H18 R2 rs2 s18 hb18 rl2' hok2 hlen2 => ?_⟩
  dsimp only [gName]
  have rl2 : RL K H18 R2 rs2 := rl2'.same same_del
  obtain ⟨us2, eR2, hus2⟩ := id rl2
  have elu : us2.length = rs2.length := by rw [dpa_length hus2, List.length_map]
  have okw := fun r (h : RowOk c (2 * (m + 1)) r) => whites_row hc h m1
  have okb := fun r (h : RowOk c (2 * (m + 1)) r) => blacks_row hc h m1
  -- own = [least(clock, [whites(clock, row) for row in some]), least(clock, [blacks(clock, row) for row in some])]
  refine ⟨_, rfl, _, rfl, R2, rfl, ⟨_, .of eR2⟩, fun D hD => ?_⟩
  refine lc_data (K := K) (walk_list (xs := us2)) (fun i => dT (whitesOf c (rs2.getD i []))) hD (by omega) (fun H' z => .of (z _ _ eR2)) (fun i u Ha Hb N hi s19 hacc y k => ?_) (fun H19 xs s19 eD hxs => ?_)
  · obtain ⟨rfl, hu⟩ := y
    obtain ⟨row, hrow, d⟩ := row_get hus2 hu
    obtain ⟨b, rfl, hb0⟩ := dp_L' d
    obtain ⟨acc, hacc⟩ := hacc
    have okr := hok2 row (List.mem_of_getElem? hrow)
    rw [List.getD_eq_getElem?_getD, hrow] at k
    exact ⟨rfl, _, rfl, _, rfl, c, b, row, rfl, s19.seq (same_del.seq hb0), hc, by rw [okr.1]; omega, by rw [okr.1]; omega, by rw [okr.1]; omega, fun H' v s hv => k v H' s (dpT_del hv (s _ _ hacc))⟩
  have zw := map_range_getD rs2 [] fun r => dT (whitesOf c r)
  rw [elu, zw] at hxs
  have lw : LRows K H19 (.ref D) (rs2.map (whitesOf c)) := ⟨D, xs, rfl, .of eD, rows_T (by rw [List.map_map]; exact dpa_same same_del hxs)⟩
  refine ⟨c, m, _, _, rfl, lw, hc, lin_ok okw hok2, by omega, by rw [List.length_map]; omega, fun H20 v1 s20 h1 => ?_⟩
  have s1820 := s19.trans s20
  refine ⟨_, rfl, _, rfl, R2, rfl, ⟨_, .of (s1820 _ _ eR2)⟩, fun D2 hD2 => ?_⟩
  refine lc_data (K := K) (walk_list (xs := us2)) (fun i => dT (blacksOf c (rs2.getD i []))) hD2 (by omega) (fun H' z => .of (z _ _ (s1820 _ _ eR2))) (fun i u Ha Hb N hi s21 hacc y k => ?_) (fun H21 xs2 s21 eD2 hxs2 => ?_)
  · obtain ⟨rfl, hu⟩ := y
    obtain ⟨row, hrow, d⟩ := row_get hus2 hu
    obtain ⟨b, rfl, hb0⟩ := dp_L' d
    obtain ⟨acc, hacc⟩ := hacc
    have okr := hok2 row (List.mem_of_getElem? hrow)
    rw [List.getD_eq_getElem?_getD, hrow] at k
    exact ⟨rfl, _, rfl, _, rfl, c, b, row, rfl, (s1820.trans s21).seq (same_del.seq hb0), hc, by rw [okr.1]; omega, by rw [okr.1]; omega, by rw [okr.1]; omega, fun H' v s hv => k v H' s (dpT_del hv (s _ _ hacc))⟩
  have zb := map_range_getD rs2 [] fun r => dT (blacksOf c r)
  rw [elu, zb] at hxs2
  have lb : LRows K H21 (.ref D2) (rs2.map (blacksOf c)) := ⟨D2, xs2, rfl, .of eD2, rows_T (by rw [List.map_map]; exact dpa_same same_del hxs2)⟩
  refine ⟨c, m, _, _, rfl, lb, hc, lin_ok okb hok2, by omega, by rw [List.length_map]; omega, fun H22 v2 s22 h2 => ⟨(by show 2 ≤ sizeLine; decide), fun pO2 hpO2 => ?_⟩⟩
  have s2022 := s21.trans s22
  have t23 : Same H22 (upd H22 pO2 (.lst [v1, v2])) := same_upd hpO2
  have eO2 : upd H22 pO2 (.lst [v1, v2]) pO2 = some (.lst [v1, v2]) := upd_same
  generalize upd H22 pO2 (.lst [v1, v2]) = H23 at t23 eO2 ⊢
  have g1 := dp_same (s2022.trans t23) h1.dp
  have g2 := dp_same t23 h2.dp
  have s1823 : Same H18 H23 := (s1820.trans s2022).trans t23
  generalize hXW : leastIn c (rs2.map (whitesOf c)) = XW at g1
  generalize hXB : leastIn c (rs2.map (blacksOf c)) = XB at g2
  have okXW : ∀ r ∈ XW, RowOk c m r := by rw [← hXW]; exact leastIn_ok hc (lin_ok okw hok2)
  have okXB : ∀ r ∈ XB, RowOk c m r := by rw [← hXB]; exact leastIn_ok hc (lin_ok okb hok2)
  have lXW : XW.length ≤ m := by rw [← hXW]; exact leastIn_len hc (lin_ok okw hok2)
  have lXB : XB.length ≤ m := by rw [← hXB]; exact leastIn_len hc (lin_ok okb hok2)
  dsimp only [gName]
  -- space = Space(clock, 2 * many + 2, some)
  have rl23 : RL K H23 R2 rs2 := rl2.same s1823
  refine ⟨_, rfl, _, rfl, 2, (m : Int), rfl, rfl, .inl ⟨by decide, by decide⟩, _, _, rfl, rfl, _, rfl, ?_⟩
  refine made2 (K := K) (C := C) ez rl23.rows hc (by omega) (by omega) hok2 (by omega) fun H24 aP s24 hP => ?_
  have okP := leastIn_ok hc hok2
  have lenP := leastIn_len hc hok2
  have eM : 2 * (m + 1) / 2 - 1 = m := by omega
  have hfW : leastIn c ((leastIn c rs2).map (whitesOf c)) = XW := by rw [half_some hc whites_lin okw hok2, hXW]
  have hfB : leastIn c ((leastIn c rs2).map (blacksOf c)) = XB := by rw [half_some hc blacks_lin okb hok2, hXB]
  have noR : ringB (2 * (m + 1)) = false → False := fun h => by
    rw [ring_ok m1 m7] at h
    cases h
  dsimp only [gName]
  -- spaces = [white_space(space), black_space(space), white_space(space=space), black_space(space=space)]
  refine ⟨_, rfl, .ref aP, rfl, .inl ⟨c, 2 * (m + 1), _, hP, fun _ => ⟨hc, okP, by omega, fun H25 w1 s25 hW1 => ?_⟩, fun h => (noR h).elim⟩⟩
  refine ⟨_, rfl, .ref aP, rfl, .inl ⟨c, 2 * (m + 1), _, hP.same s25, fun _ => ⟨hc, okP, by omega, fun H26 w2 s26 hB1 => ?_⟩, fun h => (noR h).elim⟩⟩
  refine ⟨_, rfl, rfl, .ref aP, rfl, .inl ⟨c, 2 * (m + 1), _, hP.same (s25.trans s26), fun _ => ⟨hc, okP, by omega, fun H27 w3 s27 hW2 => ?_⟩, fun h => (noR h).elim⟩⟩
  refine ⟨_, rfl, rfl, .ref aP, rfl, .inl ⟨c, 2 * (m + 1), _, hP.same ((s25.trans s26).trans s27), fun _ => ⟨hc, okP, by omega, fun H28 w4 s28 hB2 => ⟨(by show 4 ≤ sizeLine; decide), fun pS hpS => ?_⟩⟩, fun h => (noR h).elim⟩⟩
  rw [eM, hfW] at hW1 hW2
  rw [eM, hfB] at hB1 hB2
  have t29 : Same H28 (upd H28 pS (.lst [w1, w2, w3, w4])) := same_upd hpS
  have eS : upd H28 pS (.lst [w1, w2, w3, w4]) pS = some (.lst [w1, w2, w3, w4]) := upd_same
  dsimp only [gName]
  generalize upd H28 pS (.lst [w1, w2, w3, w4]) = H29 at t29 eS ⊢
  have hall : ∀ i u, [w1, w2, w3, w4][i]? = some u → SpaceAt K H29 C u c m (if i % 2 = 0 then XW else XB) := fun i u hu => by
    match i, hu with
    | 0, hu => cases hu; exact hW1.same ((s26.trans s27).trans (s28.trans t29))
    | 1, hu => cases hu; exact hB1.same (s27.trans (s28.trans t29))
    | 2, hu => cases hu; exact hW2.same (s28.trans t29)
    | 3, hu => cases hu; exact hB2.same t29
  have s2329 : Same H23 H29 := s24.trans (s25.trans (s26.trans (s27.trans (s28.trans t29))))
  have dat : ∀ i, RepW (.list [.int c, .int (m : Int), dTT (if i % 2 = 0 then XW else XB)]) 3 300000 := fun i => by
    by_cases hi : i % 2 = 0
    · rw [if_pos hi]
      exact rep_space hc (by omega) (by omega) okXW (by omega) (by omega)
    · rw [if_neg hi]
      exact rep_space hc (by omega) (by omega) okXB (by omega) (by omega)
  have rw4 : RepW (.list ((List.range 4).map fun i => PyData.list [.int c, .int (m : Int), dTT (if i % 2 = 0 then XW else XB)])) 4 1300000 := by
    refine (RepW.lst (k := 3) (l := 300000) fun d hd => ?_).mono (Nat.le_refl _) (by rw [List.length_map, List.length_range]; decide)
    obtain ⟨i, _, rfl⟩ := List.mem_map.mp hd
    exact dat i
  refine ⟨_, rfl, pS, rfl, ⟨_, .of eS⟩, fun D3 hD3 => ?_⟩
  refine lc_data (K := K) (walk_list (xs := [w1, w2, w3, w4])) (fun i => .list [.int c, .int (m : Int), dTT (if i % 2 = 0 then XW else XB)]) hD3 (by show 4 ≤ sizeLine; decide) (fun H' z => .of (z _ _ eS)) (fun i u Ha Hb N hi s30 hacc y k => ?_) (fun H30 xs3 s30 eD3 hxs3 => ?_)
  · obtain ⟨rfl, hu⟩ := y
    obtain ⟨acc, hacc⟩ := hacc
    obtain ⟨aq, dq, rq, rfl, hq1, hq2⟩ := (hall i u hu).same s30
    refine ⟨rfl, _, rfl, aq, C, dq, _, _, rfl, hq1, S.cl, S.n1, rfl, _, rfl, aq, C, dq, _, _, rfl, hq1, S.cl, S.n2, rfl, _, rfl, aq, C, dq, _, _, rfl, hq1, S.cl, S.n3, rfl, (by show 3 ≤ sizeLine; decide), fun pq hpq => ?_⟩
    have npq : pq ≠ D3 := ne_of_none' hacc hpq
    have tq : Same Hb (upd Hb pq (.lst [.int c, .int (m : Int), .ref rq])) := same_upd hpq
    refine k _ _ tq (.lst (.of (by rw [del_ne npq]; exact upd_same)) (.cons (.int _) (.cons (.int _) (.cons (dpTT_del (dp_same tq hq2) (tq _ _ hacc)) .nil))))
  have s2930 := s2329.trans s30
  -- repr of the first
  refine ⟨D3, .list ((List.range 4).map fun i => PyData.list [.int c, .int (m : Int), dTT (if i % 2 = 0 then XW else XB)]), rfl, .lst (.of eD3) (dpa_same same_del hxs3), rw4.s, rw4.h, Nat.le_trans rw4.dp (by decide), Nat.le_trans rw4.ln (by omega), ?_⟩
  -- own * 2
  refine ⟨_, rfl, pO2, 2, _, rfl, rfl, s2930 _ _ eO2, by decide, by decide, (by show 2 * 2 ≤ sizeLine; decide), fun p5 hp5 => ⟨p5, rfl, ⟨_, .of upd_same⟩, fun D4 hD4 => ?_⟩⟩
  have t31 : Same H30 (upd H30 p5 (.lst (List.replicate (2 : Int).toNat [v1, v2]).flatten)) := same_upd hp5
  have e5 : upd H30 p5 (.lst (List.replicate (2 : Int).toNat [v1, v2]).flatten) p5 = some (.lst [v1, v2, v1, v2]) := upd_same
  change upd H30 p5 (.lst (List.replicate (2 : Int).toNat [v1, v2]).flatten) D4 = none at hD4
  generalize upd H30 p5 (.lst (List.replicate (2 : Int).toNat [v1, v2]).flatten) = H31 at t31 e5 hD4
  have s2331 := s2930.trans t31
  have hown : ∀ i u, [v1, v2, v1, v2][i]? = some u → Dp K H31 u (dTT (if i % 2 = 0 then XW else XB)) := fun i u hu => by
    match i, hu with
    | 0, hu => cases hu; exact dp_same s2331 g1
    | 1, hu => cases hu; exact dp_same s2331 g2
    | 2, hu => cases hu; exact dp_same s2331 g1
    | 3, hu => cases hu; exact dp_same s2331 g2
  refine lc_data (K := K) (walk_list (xs := [v1, v2, v1, v2])) (fun i => .list [.int c, .int (m : Int), dTT (if i % 2 = 0 then XW else XB)]) hD4 (by show 4 ≤ sizeLine; decide) (fun H' z => .of (z _ _ e5)) (fun i u Ha Hb N hi s32 hacc y k => ?_) (fun H32 xs4 s32 eD4 hxs4 => ?_)
  · obtain ⟨rfl, hu⟩ := y
    obtain ⟨acc, hacc⟩ := hacc
    have hq2 := dp_same s32 (hown i u hu)
    refine ⟨rfl, _, rfl, _, rfl, _, rfl, (by show 3 ≤ sizeLine; decide), fun pq hpq => ?_⟩
    have npq : pq ≠ D4 := ne_of_none' hacc hpq
    have tq : Same Hb (upd Hb pq (.lst [.int c, .int (m : Int), u])) := same_upd hpq
    exact k _ _ tq (.lst (.of (by rw [del_ne npq]; exact upd_same)) (.cons (.int _) (.cons (.int _) (.cons (dpTT_del (dp_same tq hq2) (tq _ _ hacc)) .nil))))
  refine ⟨D4, .list ((List.range 4).map fun i => PyData.list [.int c, .int (m : Int), dTT (if i % 2 = 0 then XW else XB)]), rfl, .lst (.of eD4) (dpa_same same_del hxs4), rw4.s, rw4.h, Nat.le_trans rw4.dp (by decide), Nat.le_trans rw4.ln (by omega), ?_⟩
  refine ⟨rfl, ?_⟩
  rw [decide_eq_true rfl]
  have s18_32 := s1823.trans (s2331.trans s32)
  exact q _ (sb17.trans (s18.trans (SameB.of s18_32))) (hb18.same s18_32)
end
end K61

set_option Elab.async false
set_option linter.all false
set_option maxRecDepth 100000
set_option maxHeartbeats 4000000
/-! Rules of our own: an exception kept in a local behind its except clause: isinstance of it, its attribute. -/
namespace K61
open PySem PySem.Spec PyProof.Rows L2
/-- the exception at a, kept: its class, its dict -/
def ExV (cls : Value) (d : Option Addr) (a : Addr) : HO := .ext fun h => ∃ (oe : Obj) (vs : Array Value), h.get? a = some oe ∧ Zc cls d oe ∧ oe.data = .fields vs
theorem exV_ok {P : Program} {w : World} {H : Hp} {h : Heap} {a : Addr} {cls : Value} {d : Option Addr} {oe : Obj} {vs : Array Value} (e : h.get? a = some oe) (z : Zc cls d oe) (hd : oe.data = .fields vs) : ObjOk P w H h a (ExV cls d a) :=
  ⟨⟨oe, vs, e, z, hd⟩, ⟨oe, e⟩, fun _ _ ⟨o, v, q, r⟩ k => ⟨o, v, k o q, r⟩⟩
theorem exV_ne {cls : Value} {d : Option Addr} {a : Addr} (o : HO) (h : ∀ φ, o ≠ .ext φ) : ExV cls d a ≠ o := fun z => h _ z.symm
section
variable {X : Cx} {pins : List (Addr × Obj)} {σ : L2.St} {H : Hp} {s : Shared}
/-- behind the suite the exception is tracked -/
theorem unsuiteK {a : Addr} {oe : Obj} {vs : Array Value} {cls : Value} {d : Option Addr} (I : L2.Inv (X.suite a ((a, oe) :: (X.pn ++ pins))) [] σ H s) (ok : X.Ok) (hz : Zc cls d oe) (hd : oe.data = .fields vs) (n0 : X.s_0.heap.get? a = none) (np : ∀ p ∈ X.pn ++ pins, p.1 ≠ a) :
    L2.Inv X pins σ (upd H a (ExV cls d a)) s := by
  obtain ⟨p1, p2, p3, p4, p5⟩ := I.pin (a, oe) (List.mem_append.mpr (.inl List.mem_cons_self))
  have p1 : s.heap.get? a = some oe := p1
  have p2 : H a = none := p2
  have J := I.unsuite ok
  have ne : ∀ b o, H b = some o → b ≠ a := fun b o e => ne_of_none e p2
  have nc : ∀ x c, X.env.cells.lookup x = some c → c ≠ a := fun x c e z => by
    obtain ⟨v, o, ho, hv⟩ := J.cell x c e
    rw [z, p1] at ho
    cases ho
    rw [hd] at hv
    cases hv
  refine ⟨ok, J.os, J.bare, ⟨J.base.keep, J.base.slot, fun b o e n hx => ?_, J.base.there, fun b xs e => ?_, fun b o u e => ?_, fun b ps e => ?_⟩, J.loc, J.cell, ?_, fun x c e => ?_, fun p hp => ?_, J.hok.laidN (fun _ _ e => e) p2 (exV_ok p1 hz hd), J.len⟩
  · rw [upd_ne (fun z => by rw [z, n0] at e; cases e)]
    exact J.base.free b o e n hx
  · have z := J.base.tups b xs e
    rw [upd_ne (ne _ _ z)]
    exact z
  · have z := J.base.frzs b o u e
    rw [upd_ne (ne _ _ z)]
    exact z
  · obtain ⟨more, z⟩ := J.base.tbls b ps e
    refine ⟨more, ?_⟩
    rw [upd_ne (ne _ _ z)]
    exact z
  · rw [upd_ne (Ne.symm p3)]
    exact J.free
  · rw [upd_ne (nc x c e)]
    exact J.freeC x c e
  · obtain ⟨q1, q2, q3⟩ := J.pin p hp
    refine ⟨q1, ?_, q3⟩
    rw [upd_ne (np p hp)]
    exact q2
/-- what 'except x as n' wishes, the exception kept: slot i is n's -/
def wKeep (K : PySem.W.Frag) (c : Value) (i : Nat) (ts : TS) (D : Ends) : WX := fun cls d σ H =>
  PySem.W.exmOne K cls c = some true ∧ ∀ a, H a = none → ts { nx := fun σ' H' => D.nx (σ'.set i none) (upd H' a (ExV cls d a)), rt := fun _ _ => False, bk := fun _ _ => False, ct := fun _ _ => False } (σ.set i (some (.ref a))) H
/-- try: body / except x as n: suite -- the suite must end as it should (it keeps the exception by another name) -/
theorem ps_try_keep {x n : Str} {c : Value} {i : Nat} {body suite : List Stmt} {b₀ : Stmt} {np pos pos' : Pos} {tb : WX → TS} {ts : TS} (hs : X.stack = X.env :: X.outer) (hf : X.env.frame = some X.env.locals) (hex : X.ex = []) (hN : X.N.Nodup) (hi : X.N[i]? = some n) (hln : X.env.kindOf n = some .local) (hc : Names X x c)
    (hb : ∀ (W : WX) (pn : List (Addr × Obj)) (xe : Value → Shared → Prop), L2.Takes (X.tr pn xe) W → PassesOwn (model X.prog X.w) X.A X.env xe → PSs (X.tr pn xe) body (tb W))
    (hsu : ∀ (a : Addr) (oe : Obj) (pn : List (Addr × Obj)), PSs (X.suite a ((a, oe) :: pn)) (b₀ :: suite) ts) :
    PS X (.Try body [.ExceptHandler (some (.Name x np)) (some n) (b₀ :: suite) pos'] [] [] pos) (fun D σ H => tb (wKeep X.K c i ts D) D σ H) := by
  refine ⟨fun pins s σ H D I h => ?_⟩
  have ok := I.ok
  have hfr : X.A.frames = some (X.env :: X.outer) := by rw [ok.frames, hs]
  have hloc : Loc X.env.scope n := .inl hln
  refine wpAny_Try_except ?_
  refine wpAny_mono ((hb (wKeep X.K c i ts D) (X.pn ++ pins) (fun e s₁ => wpAny (model X.prog X.w) X.A (noteFrame e X.env) (fun _ s₂ => wpAny (model X.prog X.w) X.A (setFlight e none) (fun _ s₃ =>
    wpAny (model X.prog X.w) X.A (handleBy e X.env [.ExceptHandler (some (.Name x np)) (some n) (b₀ :: suite) pos']) (SP X pins D) X.xe s₃) X.xe s₂) X.xe s₁) (fun u s' xx => ?_) PassesOwn.looking).run [] s σ H D (I.toTry _) h) (fun f s1 hsp => ?_) (fun e s1 he => he)
  · obtain ⟨a, B, sI, pins', σ', H', cls, d, rfl, J', nb, up, sky, na, os, ag, hb1, hyes⟩ := xx
    have J : L2.Inv X pins σ' H' sI := J'.ofTry ok
    have sky' : Sky B (X.env :: X.outer) a (Zc cls d) X.env.locals s'.heap := by rw [← hs]; exact sky
    show wpAny (model X.prog X.w) X.A (noteFrame (.ref a) X.env) _ _ _
    refine Sky.land Zc.steady hfr hf sky' fun h3 fl3 up3 => ?_
    have J3 : L2.Inv X pins σ' H' { s' with heap := h3 } := J.landed nb fl3.1 (up.trans up3) os ag
    obtain ⟨oe3, vs3, he3, hz3, hd3⟩ := fl3.there
    have nfr : a ∉ frs (X.env :: X.outer) := fun hm => by
      obtain ⟨_, o', e', hnf⟩ := fl3.2.2.1.mem hm
      rw [he3] at e'
      cases e'
      exact hnf _ hd3
    have nL : a ≠ X.env.locals := fun z => nfr (List.mem_filterMap.mpr ⟨X.env, List.mem_cons_self, by rw [hf, z]⟩)
    have nF : a ∉ X.fs := fun hm => by
      obtain ⟨e, he, q⟩ := List.mem_filterMap.mp hm
      exact nfr (List.mem_filterMap.mpr ⟨e, List.mem_cons_of_mem _ he, q⟩)
    have nB : B.get? a = none := fl3.2.1
    have nst : a ∉ frs X.stack := by rw [hs]; exact nfr
    have n0 : X.s_0.heap.get? a = none := by
      cases q : X.s_0.heap.get? a with
      | none => rfl
      | some o =>
        obtain ⟨o', e'⟩ := J.base.there a o q (by rw [hex]; simp)
        have z := nb a o' e' nst
        rw [nB] at z
        cases z
    have npn : ∀ p ∈ X.pn ++ pins, p.1 ≠ a := fun p hp z => by
      obtain ⟨q1, _⟩ := J.pin p hp
      have y := nb p.1 p.2 q1 (by rw [z]; exact nst)
      rw [z, nB] at y
      cases y
    have S3 := J3.suite he3 hd3 na nL nF
    refine wpAny_handleBy_cons (codeAny_handlers_test ?_) (by intro q; cases q)
    have LT : PySem.W.Looks (model X.prog X.w) h3 (typeOf (.ref a)) cls := fun A Q E s k q => wpAny_typeOf_ref (k _ _ he3) (by rw [hz3.1]; exact q)
    have LM := PySem.W.exm_one (M := model X.prog X.w) (J3.kIn) LT hb1
    have test : ∀ {Q : Value → Shared → Prop} {E : Value → Shared → Prop}, Q c { s' with heap := h3 } → wpAny (model X.prog X.w) (X.A.mark (some (.ref a))) (eval (.Name x np) X.env) Q E { s' with heap := h3 } := fun {Q E} q => by
      obtain ⟨hg, hdbg, hm | ⟨hm, hv, hnn⟩⟩ := hc
      · exact ld_glob (X := X.suite a ((a, oe3) :: (X.pn ++ pins))) S3 hg hm q hdbg
      · exact ld_blt (X := X.suite a ((a, oe3) :: (X.pn ++ pins))) S3 hg hm hv q hnn hdbg
    refine test (LM.here ?_)
    refine codeAny_handlers_suite_as ?_
    refine HandSPX.lands_againZ fl3 fun h4 fl4 up4 => ?_
    have J4 : L2.Inv X pins σ' H' { s' with heap := h4 } := J.landed nb fl4.1 ((up.trans up3).trans up4) os ag
    obtain ⟨oe4, vs4, he4, hz4, hd4⟩ := fl4.there
    have S4 := J4.suite he4 hd4 na nL nF
    refine store_ok (X := X.suite a ((a, oe4) :: (X.pn ++ pins))) (v := .ref a) S4 hN hi hloc rfl (fun s5 S5 => ?_) (.inr hln)
    refine wpAny_mono ((hsu a oe4 (X.pn ++ pins)).run [] s5 _ H' _ S5 (hyes a na)) (fun f s6 hsp => ?_) (fun _ _ z => False.elim z)
    cases f with
    | next =>
      obtain ⟨σ6, H6, S6, q6⟩ := hsp
      exact gone_ok (unsuiteK S6 ok hz4 hd4 n0 npn) hN hi hln fun s7 J7 => ⟨_, _, J7, q6⟩
    | brk =>
      obtain ⟨_, _, _, q6⟩ := hsp
      exact False.elim q6
    | cont =>
      obtain ⟨_, _, _, q6⟩ := hsp
      exact False.elim q6
    | ret u =>
      obtain ⟨_, _, _, _, _, q6⟩ := hsp
      exact False.elim q6
  · cases f with
    | next =>
      obtain ⟨σ', H', J', q⟩ := hsp
      exact wpAny_execs_nil ⟨σ', H', J'.ofTry ok, q⟩
    | brk =>
      obtain ⟨σ', H', J', q⟩ := hsp
      exact ⟨σ', H', J'.ofTry ok, q⟩
    | cont =>
      obtain ⟨σ', H', J', q⟩ := hsp
      exact ⟨σ', H', J'.ofTry ok, q⟩
    | ret u =>
      obtain ⟨v, σ', H', J', r, q⟩ := hsp
      exact ⟨v, σ', H', J'.ofTry ok, r, q⟩
/-! ### isinstance of it, its attribute -/
def rIsX (K : PySem.W.Frag) : List V → Hp → VK → Prop := fun xs H Q => ∃ (a D dd : Addr) (fs : List (Str × V)) (c : V) (u : Value) (b : Bool), xs = [.ref a, c] ∧ H a = some (ExV (.ref D) (some dd) a) ∧ H dd = some (.xd fs) ∧ ExcC K D ∧ ClsV c u ∧ PySem.W.kitOne K (.ref D) u = some b ∧ Q (.bl b) H
theorem call_isX : CallR X (.builtin "isinstance") (rIsX X.K) := by
  intro pins s σ H xs us Q I r h
  obtain ⟨a, D, dd, fs, c, u, b, rfl, ha, hdd, C, k, e, q⟩ := h
  obtain ⟨u1, u2, rfl, r1, r2⟩ := vals2 r
  have e2 := k.eq r2
  subst e2
  obtain rfl : u1 = Value.ref a := r1
  obtain ⟨⟨oe, vs, hget, hz, hv⟩, _, _⟩ := I.hok a _ ha
  have hx : ObjOk X.prog X.w H s.heap dd (.xd fs) := I.hok dd _ hdd
  obtain ⟨mA, hns, _⟩ := hx
  obtain ⟨od, ho, _⟩ := lookIn_ns hns
  have J : PySem.W.InstAt s.heap a oe D (some od) := ⟨hget, hz.1, by unfold PySem.W.notCls; rw [hv] <;> rfl, by rw [hz.2]; exact ho⟩
  obtain ⟨cd, hcd, _⟩ := PySem.W.any_some C.hd
  exact PySem.W.kia_one (PySem.W.kitx_exc (by rw [hcd]; rfl) C.hg C.hk C.hs C.ha C.hn C.ht C.hm) I.kIn J e (fun z => nomatch z) fun tk => ⟨.bl b, H, I.tok tk, rfl, q⟩
def tXv (K : PySem.W.Frag) (f : Str) (te : TE) : TE := fun σ H Q => te σ H fun x H1 => ∃ (a C dd : Addr) (fs : List (Str × V)) (v : V), x = .ref a ∧ H1 a = some (ExV (.ref C) (some dd) a) ∧ XfC K C ∧ PySem.W.findIn K (.ref C) f = some none ∧ H1 dd = some (.xd fs) ∧ fs.lookup f = some v ∧ Q v H1
theorem pe_xv {e : Expr} {te : TE} {pos : Pos} {n : Str} (he : PE X e te) (hb : attributeBase e n X.env (eval e X.env) = eval e X.env := by rfl) : PE X (.Attribute e n pos) (tXv X.K n te) := by
  refine ⟨fun pins s σ H Q I h => ?_⟩
  refine attr_of hb (thn (he.run pins s σ H _ I h) fun u s1 hh => ?_)
  obtain ⟨x, H1, I1, rx, a, C, dd, fs, v, rfl, ha, T, hno, ea, l, q⟩ := hh
  obtain rfl : u = Value.ref a := rx
  obtain ⟨⟨oe, vs, hget, hz, hv⟩, _, _⟩ := I1.hok a _ ha
  have hx : ObjOk X.prog X.w H1 s1.heap dd (.xd fs) := I1.hok dd _ ea
  obtain ⟨mA, hns, hr⟩ := hx
  obtain ⟨od, ho, hl⟩ := lookIn_ns hns
  obtain ⟨u, hu, ru⟩ := RelO.some_of (v := v) (o := mA n) (by rw [← l]; exact hr n)
  have J : PySem.W.InstAt s1.heap a oe C (some od) := ⟨hget, hz.1, by unfold PySem.W.notCls; rw [hv] <;> rfl, by rw [hz.2]; exact ho⟩
  exact HandSPX.exc_get I1.kIn J T.ga T.gg T.exC (PySem.W.findObj_own T.hdC hno rfl (by rw [hl, hu])) (handed_of ru) ⟨v, H1, I1.tok _, ru, q⟩
end
end K61

set_option Elab.async false
set_option linter.all false
set_option maxRecDepth 100000
set_option maxHeartbeats 4000000
/-! Rules of our own: a lambda with one parameter that has a default (an int), handed to a def that calls it without values. -/
namespace K61
open PySem PySem.Spec PyProof.Rows L2
abbrev lamFn (T : Addr) (name qual : Str) (params : Arguments) (body : Expr) (scope : Scope) (cl : List (Str × Addr)) (pm cdv ct : Value) : FuncData :=
  { PySem.W.kla_fn name qual params body scope cl pm cdv ct with defaults := .ref T }
abbrev lamObj (T : Addr) (name qual : Str) (params : Arguments) (body : Expr) (scope : Scope) (clos : List (Str × Addr)) (pm : Value) (c' : Addr) (ctv : Value) : Obj :=
  { cls := .type "function", data := .func (lamFn T name qual params body scope clos pm (.ref c') ctv) }
section
variable {M : Model} {A : Around} {E : Value → Shared → Prop} {s : Shared} {name qual : Str} {params : Arguments} {body : Expr} {scope : Scope} {env : Env} {c P T : Addr} {ps : Array Value} {pos : Pos} {firstLine : Nat} {mg : Str → Option Value}
  {clos : List (Str × Addr)} {Q : Value → Shared → Prop}
open PySem.W in
theorem lam_tail (hcl : closureFor scope env = pure clos) (hge0 : env.globals = mainGlobals) (hg : s.heap.Ns mainGlobals mg) (hcode : env.code = .ref c) (C : CodeHd s.heap c P) (hP : s.heap.get? P = some (tabObj ps)) (ht : TriplesOk ps.toList)
    (hnf : codeAmong pos ps.toList = none) (hgP : mainGlobals ≠ P) (hb : s.heap.BuiltinsAt mg P)
    (h : ∀ c' ctv h' tk, Heap.ExtBut P s.heap h' → s.heap.objs.size ≤ c' → c' < h'.objs.size → h'.CodeRec (.ref c') qual → h'.get? P = some (tabObj (ps ++ #[rawInt pos.line, rawInt pos.col, .ref c'])) →
      Q (.ref h'.objs.size) { s with heap := h'.push (lamObj T name qual params body scope clos ((mg "__name__").getD .none) c' ctv), toks := tk }) :
    wpAny M A (makeTail name qual params (.expr body) scope env (.ref T) .none none pos firstLine) Q E s := by
  obtain ⟨bm, ob, hbm, hne0, _, hneP, hbo, hcls, hdict, hdata⟩ := hb
  unfold makeTail
  rw [hcl, hge0]
  refine wpAny_bind (wpAny_pure ?_)
  cases clos with
  | nil =>
    simp only [List.isEmpty_nil, if_true]
    refine wpAny_bind (wpAny_pure ?_)
    refine wpAny_bind (wpAny_functionCodeX hcode (C.code hP ht) (C.tab hP) hnf fun c' h' tk hx hge hlt _ hrec htb _ => ?_)
    have hg' := hg.extBut hx hgP
    refine wpAny_bind (wpAny_builtinsFor hg' hbm hne0 (hx _ _ hneP hbo) hcls hdict hdata ?_)
    refine wpAny_bind (wpAny_nsGet hg' ?_)
    exact wpAny_bind (wpAny_pure (wpAny_newObj_type (h c' .none h' tk hx hge hlt hrec htb.2) (by size_fits)))
  | cons q r =>
    simp only [List.isEmpty_cons, Bool.false_eq_true, if_false]
    refine wpAny_bind (wpAny_newTextTuple ?_)
    refine wpAny_bind (wpAny_functionCodeX hcode ((C.keeps fun b o e => Heap.get?_push_of_some _ e).code (Heap.get?_push_of_some _ hP) ht) ((C.keeps fun b o e => Heap.get?_push_of_some _ e).tab (Heap.get?_push_of_some _ hP)) hnf fun c' h' tk hx hge hlt _ hrec htb _ => ?_)
    have hg' := (hg.push _).extBut hx hgP
    have hx' : Heap.ExtBut P s.heap h' := fun b o hb' e => hx b o hb' (Heap.get?_push_of_some _ e)
    have hge' : s.heap.objs.size ≤ c' := Nat.le_trans (by rw [Heap.size_push]; omega) hge
    refine wpAny_bind (wpAny_builtinsFor hg' hbm hne0 (hx' _ _ hneP hbo) hcls hdict hdata ?_)
    refine wpAny_bind (wpAny_nsGet hg' ?_)
    exact wpAny_bind (wpAny_pure (wpAny_newObj_type (h c' _ h' tk hx' hge' hlt hrec htb.2) (by size_fits)))
open PySem.W in
theorem lam_tailHit {cv : Value} (hcl : closureFor scope env = pure clos) (hge0 : env.globals = mainGlobals) (hg : s.heap.Ns mainGlobals mg) (hcode : env.code = .ref c) (C : CodeHd s.heap c P) (hP : s.heap.get? P = some (tabObj ps)) (ht : TriplesOk ps.toList)
    (hf : codeAmong pos ps.toList = some cv) (hb : s.heap.BuiltinsAt mg P)
    (h : ∀ (ctv : Value) (h' : Heap) (tk : Tok), (∀ b o, s.heap.get? b = some o → h'.get? b = some o) → s.heap.objs.size ≤ h'.objs.size →
      Q (.ref h'.objs.size) { s with heap := h'.push { cls := .type "function", data := .func (lamFn T name qual params body scope clos ((mg "__name__").getD .none) cv ctv) }, toks := tk }) :
    wpAny M A (makeTail name qual params (.expr body) scope env (.ref T) .none none pos firstLine) Q E s := by
  obtain ⟨bm, ob, hbm, hne0, _, hneP, hbo, hcls, hdict, hdata⟩ := hb
  unfold makeTail
  rw [hcl, hge0]
  refine wpAny_bind (wpAny_pure ?_)
  cases clos with
  | nil =>
    simp only [List.isEmpty_nil, if_true]
    refine wpAny_bind (wpAny_pure ?_)
    refine wpAny_bind (wpAny_functionCode_hit hcode (C.code hP ht) hf ?_)
    refine wpAny_bind (wpAny_builtinsFor hg hbm hne0 hbo hcls hdict hdata ?_)
    refine wpAny_bind (wpAny_nsGet hg ?_)
    exact wpAny_bind (wpAny_pure (wpAny_newObj_type (h .none s.heap s.toks (fun _ _ e => e) (Nat.le_refl _)) (by size_fits)))
  | cons q r =>
    simp only [List.isEmpty_cons, Bool.false_eq_true, if_false]
    refine wpAny_bind (wpAny_newTextTuple ?_)
    refine wpAny_bind (wpAny_functionCode_hit hcode ((C.keeps fun b o e => Heap.get?_push_of_some _ e).code (Heap.get?_push_of_some _ hP) ht) hf ?_)
    refine wpAny_bind (wpAny_builtinsFor (hg.push _) hbm hne0 (Heap.get?_push_of_some _ hbo) hcls hdict hdata ?_)
    refine wpAny_bind (wpAny_nsGet (hg.push _) ?_)
    have hsz : ∀ oT : Obj, s.heap.objs.size ≤ (s.heap.push oT).objs.size := fun oT => by rw [Heap.size_push]; omega
    exact wpAny_bind (wpAny_pure (wpAny_newObj_type (h _ _ s.toks (fun b o e => Heap.get?_push_of_some _ e) (hsz _)) (by size_fits)))
/-- the lambda's value: the default is evaluated and laid, then the function is made -/
theorem lam_eval {z : Int} {i : Nat} {dpos : Pos} (hdef : defaultsOf params env = ([eval (.Constant (.int z) i dpos) env], [])) (hkw : params.kwonlyargs = [])
    (h : ∀ t : Tok, wpAny M A (makeTail "<lambda>" (env.qual ++ "<lambda>") params (.expr body) scope env (.ref s.heap.objs.size) .none none pos pos.line) Q E { s with heap := s.heap.push { cls := .type "tuple", data := .seq #[.int z t] }, toks := s.toks + 1 }) :
    wpAny M A (eval (.Lambda params body scope pos) env) Q E s := by
  rw [arm_eval_Lambda, hdef]
  show wpAny M A (do let dv ← evalAll [eval (.Constant (.int z) i dpos) env]; let kdv ← holding dv (evalAllOpt []); makeFunction "<lambda>" (env.qual ++ "<lambda>") params (.expr body) scope env dv kdv [] pos pos.line) Q E s
  refine wpAny_bind (wpAny_evalAll_cons (wpAny_Constant_int (wpAny_evalAll_nil ?_)))
  refine wpAny_bind (wpAny_holding (wpAny_pure ?_))
  rw [makeFunction_eq, hkw]
  simp only [List.zip_nil_left, List.filterMap_nil, List.isEmpty_nil, List.isEmpty_cons, if_true, Bool.false_eq_true, if_false, pure_bind]
  refine wpAny_bind (wpAny_newTextTuple ?_)
  exact h _
end
open LamX in
section
variable {X : Cx} {pins : List (Addr × Obj)} {σ : L2.St} {H : Hp} {s : Shared}
/-- the lambda is made: its default laid, its code object new, or found in the table -/
theorem lam_makeD {T : List (Addr × Str)} {c P : Addr} {params : Arguments} {body : Expr} {scope : Scope} {pos dpos : Pos} {z : Int} {i : Nat} {E : Value → Shared → Prop} {Q : Value → Shared → Prop} (I : L2.Inv X pins σ H s) (TB : TabB X.base X.mg c P) (hcode : X.env.code = .ref c)
    (hm : (P, X.env.qual ++ "<lambda>") ∈ T) (hu : ∀ p ∈ T, p.1 = P → p.2 = X.env.qual ++ "<lambda>") (hT : Tabs T H) (hdef : defaultsOf params X.env = ([eval (.Constant (.int z) i dpos) X.env], [])) (hkw : params.kwonlyargs = []) (hfree : ∀ y ∈ scope.names, y.2 = .free → ∃ c, X.env.cells.lookup y.1 = some c)
    (h : ∀ (f c' D : Addr) (t : Tok) (pm ctv : Value) (H1 : Hp) (s' : Shared), L2.Inv X pins σ H1 s' → ExtN H H1 → Tabs T H1 →
      s'.heap.get? f = some (lamObj D "<lambda>" (X.env.qual ++ "<lambda>") params body scope (cloFrom X.env.cells scope.names []) pm c' ctv) → H1 f = none → f ∉ frs X.stack → H1 c' = some (CodeO c' (X.env.qual ++ "<lambda>")) →
      s'.heap.get? D = some { cls := .type "tuple", data := .seq #[.int z t] } → H1 D = none → D ∉ frs X.stack → Q (.ref f) s') :
    wpAny (model X.prog X.w) X.A (eval (.Lambda params body scope pos) X.env) Q E s := by
  obtain ⟨ps, hP, ht, ha⟩ := hT _ hm
  refine lam_eval hdef hkw fun t => ?_
  have kp : ∀ b o, s.heap.get? b = some o → (s.heap.push { cls := .type "tuple", data := .seq #[.int z t] }).get? b = some o := fun b o e => Heap.get?_push_of_some _ e
  have I0 : L2.Inv X pins σ H { s with heap := s.heap.push { cls := .type "tuple", data := .seq #[.int z t] }, toks := s.toks + 1 } := I.kept kp
  have nofr : ∀ f, s.heap.objs.size ≤ f → f ∉ frs X.stack := fun f hf z => by
    rcases List.mem_cons.mp (I.stkSub _ z) with e | e
    · have h1 := I.lt
      rw [← e] at h1
      exact Nat.lt_irrefl _ (Nat.lt_of_lt_of_le h1 hf)
    · exact I.nofs hf e
  have dH : H s.heap.objs.size = none := I.hok.fresh (Nat.le_refl _)
  have dG : (s.heap.push { cls := .type "tuple", data := .seq #[.int z t] }).get? s.heap.objs.size = some { cls := .type "tuple", data := .seq #[.int z t] } := Heap.get?_push_size _ rfl
  have dF := nofr _ (Nat.le_refl _)
  have szp : (s.heap.push { cls := .type "tuple", data := .seq #[.int z t] }).objs.size = s.heap.objs.size + 1 := Heap.size_push ..
  generalize hD : s.heap.objs.size = D at dH dG dF szp nofr ⊢
  have dP : D ≠ P := fun z => by
    rw [z, hP] at dH
    cases dH
  generalize hs0 : ({ s with heap := s.heap.push { cls := .type "tuple", data := .seq #[.int z t] }, toks := s.toks + 1 } : Shared) = s0 at I0 ⊢
  have dG : s0.heap.get? D = some { cls := .type "tuple", data := .seq #[.int z t] } := by rw [← hs0]; exact dG
  have szp : s0.heap.objs.size = D + 1 := by rw [← hs0]; exact szp
  have bP : s0.heap.BuiltinsAt X.mg P := TB.bm.keeps I0.bk
  have hP' : s0.heap.get? P = some { cls := .none, data := .fields ps } := I0.hok P _ hP
  cases hc : codeAmong pos ps.toList with
  | none =>
    refine lam_tail (mg := X.mg) (c := c) (P := P) (ps := ps) (closure_ok hfree) I0.ok.glob (I0.mod.glob.keeps I0.bk) hcode (TB.code.keeps I0.bk) hP' ht hc TB.gP bP fun c' ctv h' tk hx hge hlt hrec htb => ?_
    obtain ⟨c2, oc, vs, t2, e2, hoc, hd, hv⟩ := hrec
    cases e2
    have hsz : s0.heap.objs.size ≤ h'.objs.size := Nat.le_trans hge (Nat.le_of_lt hlt)
    have nC : H c' = none := I0.hok.fresh hge
    have I1 := inv_table (t' := tk) (more := #[rawInt pos.line, rawInt pos.col, .ref c']) (q := X.env.qual ++ "<lambda>") (h' := h'.push (lamObj D "<lambda>" (X.env.qual ++ "<lambda>") params body scope (cloFrom X.env.cells scope.names []) ((X.mg "__name__").getD .none) c' ctv)) I0 hP
      (fun b o hb e => Heap.get?_push_of_some _ (hx b o hb e)) (Heap.get?_push_of_some _ htb) hge ⟨oc, vs, t2, Heap.get?_push_of_some _ hoc, hd, hv⟩
    have hE : ExtN H (upd (upd H P (.tbl (ps ++ #[rawInt pos.line, rawInt pos.col, .ref c']))) c' (CodeO c' (X.env.qual ++ "<lambda>"))) := fun b o e n => by
      rw [upd_ne (ne_of_none e nC), upd_ne (fun z => n ps (Option.some.inj (e.symm.trans (by rw [z]; exact hP))))]
      exact e
    have eL : (ps ++ #[rawInt pos.line, rawInt pos.col, .ref c']).toList = ps.toList ++ [rawInt pos.line, rawInt pos.col, .ref c'] := by simp
    have nDc : D ≠ c' := fun z => by
      rw [szp, ← z] at hge
      exact Nat.lt_irrefl _ hge
    refine h h'.objs.size c' D t ((X.mg "__name__").getD .none) ctv _ _ I1 hE (fun p hp => ?_) (Heap.get?_push_size _ rfl) ?_ (nofr _ (Nat.le_trans (by rw [szp]; exact Nat.le_succ _) hsz)) upd_same (Heap.get?_push_of_some _ (hx D _ dP dG)) ?_ dF
    · by_cases hb : p.1 = P
      · rw [hu p hp hb, hb]
        refine ⟨_, by rw [upd_ne (ne_of_none hP nC), upd_same], by rw [eL]; exact PySem.TriplesOk_snoc _ _ _ _ ht, fun p' cv hcv => ?_⟩
        rw [eL] at hcv
        rcases among_app _ ht hcv with z | z
        · obtain ⟨c0, e1, e2⟩ := ha p' cv z
          exact ⟨c0, e1, hE _ _ e2 codeO_ne⟩
        · exact ⟨c', z, upd_same⟩
      · obtain ⟨ps', a1, a2, a3⟩ := hT p hp
        refine ⟨ps', by rw [upd_ne (ne_of_none a1 nC), upd_ne hb]; exact a1, a2, fun p' cv hcv => ?_⟩
        obtain ⟨c0, e1, e2⟩ := a3 p' cv hcv
        exact ⟨c0, e1, hE _ _ e2 codeO_ne⟩
    · have n1 : h'.objs.size ≠ c' := Nat.ne_of_gt hlt
      have n2 : h'.objs.size ≠ P := Nat.ne_of_gt (Nat.lt_of_lt_of_le (Heap.lt_size hP') hsz)
      rw [upd_ne n1, upd_ne n2]
      exact I0.hok.fresh hsz
    · rw [upd_ne nDc, upd_ne dP]
      exact dH
  | some cv =>
    obtain ⟨c', e, hco⟩ := ha pos cv hc
    subst e
    refine lam_tailHit (mg := X.mg) (c := c) (P := P) (ps := ps) (closure_ok hfree) I0.ok.glob (I0.mod.glob.keeps I0.bk) hcode (TB.code.keeps I0.bk) hP' ht hc bP fun ctv h' tk hx hsz => ?_
    have I1 : L2.Inv X pins σ H { s0 with heap := h'.push (lamObj D "<lambda>" (X.env.qual ++ "<lambda>") params body scope (cloFrom X.env.cells scope.names []) ((X.mg "__name__").getD .none) c' ctv), toks := tk } := I0.kept fun b o e => Heap.get?_push_of_some _ (hx b o e)
    exact h h'.objs.size c' D t ((X.mg "__name__").getD .none) ctv H _ I1 (ExtN.refl H) hT (Heap.get?_push_size _ rfl) (I0.hok.fresh hsz) (nofr _ (Nat.le_trans (by rw [szp]; exact Nat.le_succ _) hsz)) hco (Heap.get?_push_of_some _ (hx D _ dG)) dH dF
end
/-! ### such a lambda's names -/
/-- one parameter a; no other name of its own -/
structure LamP (sc scope : Scope) (a : Str) : Prop where
  kind : scope.kind = .function
  co : scope.isCoroutine = false
  gen : scope.isGenerator = false
  own : ∀ y ∈ scope.names, (y.2 = .local → y.1 = a) ∧ y.2 ≠ .cell
  par : scope.names.lookup a = some .local
  free : ∀ y ∈ scope.names, y.2 = .free → sc.names.lookup y.1 = some .cell ∨ sc.names.lookup y.1 = some .free
def lamPB (sc scope : Scope) (a : Str) : Bool :=
  decide (scope.kind = .function) && !scope.isCoroutine && !scope.isGenerator && decide (scope.names.lookup a = some .local) && scope.names.all fun y => (!decide (y.2 = .local) || decide (y.1 = a)) && !decide (y.2 = .cell) && (!decide (y.2 = .free) || decide (sc.names.lookup y.1 = some .cell) || decide (sc.names.lookup y.1 = some .free))
theorem lamP_by {sc scope : Scope} {a : Str} (h : lamPB sc scope a = true) : LamP sc scope a := by
  unfold lamPB at h
  simp only [Bool.and_eq_true, Bool.or_eq_true, Bool.not_eq_true', decide_eq_true_eq, decide_eq_false_iff_not, List.all_eq_true] at h
  obtain ⟨⟨⟨⟨h1, h2⟩, h3⟩, h5⟩, h4⟩ := h
  refine ⟨h1, h2, h3, fun y hy => ⟨fun z => ?_, (h4 y hy).1.2⟩, h5, fun y hy e => ?_⟩
  · rcases (h4 y hy).1.1 with q | q
    · exact absurd z q
    · exact q
  · rcases (h4 y hy).2 with (z | z) | z
    · exact absurd e z
    · exact .inl z
    · exact .inr z
open LamX in
section
variable {X : Cx} {pins : List (Addr × Obj)} {σ : L2.St} {H HZ : Hp} {s s1 : Shared}
theorem LamP.has {scope : Scope} {a : Str} (L : LamP X.env.scope scope a) (ok : X.Ok) : ∀ y ∈ scope.names, y.2 = .free → ∃ c, X.env.cells.lookup y.1 = some c := fun y hy e => by
  rcases L.free y hy e with k | k
  · exact ok.has _ (.inl k)
  · exact ok.has _ (.inr k)
theorem lam_startD {A : Around} {outer : List Env} {E : XK} {scope : Scope} {f c' : Addr} {h₁ : Heap} {tk : Nat} {pa : Str} {pv : Value} (I : L2.Inv X pins σ H s) (L : LamP X.env.scope scope pa) (hpa : pa ∉ X.N) (e0 : Env0 X.prog X.w X.K X.mg X.base A outer s1 HZ) (hd : A.handled = none)
    (un : Un (frs X.stack) [] H HZ s.heap s1.heap) (hns : h₁.Ns s1.heap.objs.size fun y => [(pa, pv)].reverse.lookup y) (kp : ∀ b o, s1.heap.get? b = some o → h₁.get? b = some o) :
    L2.Inv (lamCx X A outer s1 HZ E scope f c') [] σ HZ { s1 with heap := h₁, toks := tk } := by
  have hfree := L.has I.ok
  have cm : ∀ {y c}, (cloFrom X.env.cells scope.names []).lookup y = some c → X.env.cells.lookup y = some c := fun {y c} e => by
    rcases cloFrom_mem (PySem.mem_of_lookup e) with hm | ⟨h1, h2⟩
    · cases hm
    · obtain ⟨c1, hc⟩ := hfree _ h1 rfl
      have hc : X.env.cells.lookup y = some c1 := hc
      have e2 : c = c1 := by
        rw [h2, hc] <;> rfl
      rw [e2]
      exact hc
  have look : ∀ {y}, scope.names.lookup y = some .free → ∃ c, (cloFrom X.env.cells scope.names []).lookup y = some c := fun {y} hl => by
    have hy : (y, NameKind.free) ∈ scope.names := PySem.mem_of_lookup hl
    exact mem_lookup (cloFrom_has (cells := X.env.cells) (acc := []) hy)
  have cellK : ∀ {c : Addr} {v : Option Value}, H c = none → s.heap.IsCell c v → h₁.IsCell c v := fun {c v} n ⟨o, ho, hd⟩ => by
    obtain ⟨sl, q⟩ := un.any ho n (by simp)
    exact ⟨_, kp _ _ q, hd⟩
  have noA : ∀ b : Addr, b ∉ (lamCx X A outer s1 HZ E scope f c').ex := fun b z => absurd (show b ∈ ([] : List Addr) from z) (by simp)
  refine ⟨⟨e0.mod, L.kind, rfl, rfl, Nat.le_refl _, fun y z c e1 e2 => I.ok.inj y z c (cm e1) (cm e2), fun y hy => ?_, fun y c z _ => ?_, fun _ => hd, Around.frames_deeper e0.frames, .inr ⟨rfl, rfl⟩, fun b z => absurd z (noA b), e0.bs, e0.bsz, fun b _ _ => noA b,
      fun b z => absurd z (noA b), e0.funs, e0.frf⟩,
    rfl, e0.bare, Un.kept kp, ⟨_, hns, fun i y v e1 e2 e3 => ?_⟩, fun y c e => ?_, e0.hok.fresh (Nat.le_refl _), fun y c e => ?_, fun q hq => absurd (show q ∈ ([] : List (Addr × Obj)) ++ [] from hq) (by simp), e0.hok.kept kp, I.len⟩
  · have hy : scope.names.lookup y = some .cell ∨ scope.names.lookup y = some .free := hy
    rcases hy with hy | hy
    · exact absurd rfl (L.own _ (PySem.mem_of_lookup hy)).2
    · exact look hy
  · have z : false = true := z
    cases z
  · have e3 : Vis scope y := e3
    rcases e3 with k | k | k
    · have ey : y = pa := (L.own _ (PySem.mem_of_lookup k)).1 rfl
      rw [ey] at e1
      exact absurd (List.mem_of_getElem? e1) hpa
    · exact absurd rfl (L.own _ (PySem.mem_of_lookup k)).2
    · obtain ⟨m, hn, hl⟩ := I.loc
      have hvis : Vis X.env.scope y := (L.free _ (PySem.mem_of_lookup k) rfl).elim (fun k => .inr (.inl k)) (fun k => .inr (.inr k))
      obtain ⟨w', r, q⟩ := hl i y v e1 e2 hvis
      obtain ⟨c2, h2⟩ := look k
      refine ⟨w', r, .inr ⟨.inr k, c2, h2, ?_⟩⟩
      have c1 := cm h2
      rcases q with ⟨k', _⟩ | ⟨_, c3, e', z⟩
      · have k' : X.env.scope.names.lookup y = some .local := k'
        rcases L.free _ (PySem.mem_of_lookup k) rfl with k2 | k2 <;> rw [show X.env.scope.names.lookup y = _ from k2] at k' <;> cases k'
      · rw [c1] at e'
        cases e'
        exact cellK (I.freeC y _ c1) z
  · obtain ⟨w', z⟩ := I.cell y c (cm e)
    exact ⟨w', cellK (I.freeC y c (cm e)) z⟩
  · obtain ⟨v, o, ho, hd⟩ := I.cell y c (cm e)
    exact un.free c o ho (I.freeC y c (cm e)) (by simp)
/-- x(), in the def that got such a lambda -/
theorem pe_actD {CXg : CXT} {Eg : XK} {Ng : List Str} {qg : Str} {sg : Scope} {g f c' D : Addr} {cdg pm ctv pv : Value} {params : Arguments} {body : Expr} {scope : Scope} {k i : Nat} {a pa : Str} {pn : List (Addr × Obj)} {xe : Value → Shared → Prop} {W : WX} {E : XK} {tb : TE} {p1 p2 : Pos}
    (I : L2.Inv X pins σ H s) (L : LamP X.env.scope scope pa) (hpa : pa ∉ X.N) (hf : s.heap.get? f = some (lamObj D "<lambda>" (X.env.qual ++ "<lambda>") params body scope (cloFrom X.env.cells scope.names []) pm c' ctv)) (hfn : H f = none) (hfr : f ∉ frs X.stack)
    (hD : s.heap.get? D = some { cls := .type "tuple", data := .seq #[pv] }) (hDn : H D = none) (hDr : D ∉ frs X.stack)
    (hbind : ∃ kk, bindArgs (lamFn D "<lambda>" (X.env.qual ++ "<lambda>") params body scope (cloFrom X.env.cells scope.names []) pm (.ref c') ctv) ⟨[], []⟩ = seqItems? (.ref D) >>= kk ∧ kk (some #[pv]) = pure [(pa, pv)])
    (tk : L2.Takes ((cxOf CXg X.prog X.w X.K X.mg X.base Ng qg sg g cdg X.A X.stack s H Eg).tr pn xe) W) (hW : ∀ cls d σ' H', E cls d H' → W cls d σ' H') (hr : Room (k + 1) (X.A.deeper (envOfC qg sg s.heap.objs.size g cdg)))
    (hbody : ∀ (A : Around) (outer : List Env) (s : Shared) (H : Hp), Room k (A.deeper (lamEnv X scope s.heap.objs.size f c')) → PE (lamCx X A outer s H E scope f c') body tb)
    (hN : Ng[i]? = some a) (hv : Vis sg a) (hd : (a == ("__debug__" : Str)) = false := by decide) (hcd : (a == ("__classdict__" : Str)) = false := by decide) :
    PE ((cxOf CXg X.prog X.w X.K X.mg X.base Ng qg sg g cdg X.A X.stack s H Eg).tr pn xe) (.Call (.Name a p1) [] [] p2)
      (fun σZ HZ Q => σZ[i]? = some (some (.ref f)) ∧ HZ c' = some (CodeO c' (X.env.qual ++ "<lambda>")) ∧ tb σ HZ Q) := by
  refine ⟨fun pinsZ sZ σZ HZ Q IZ h => ?_⟩
  obtain ⟨hs, hc, ht⟩ := h
  refine wpAny_Call_Name_kw (thn ((pe_var (pos := p1) (i := i) hN hv hd hcd).run pinsZ sZ σZ HZ (fun v H1 => v = .ref f ∧ H1 = HZ) IZ ⟨.ref f, hs, rfl, rfl⟩) fun u s1 ⟨v, H1, I1, r1, q1⟩ => ?_)
  obtain ⟨ev, eH⟩ := q1
  subst ev
  rw [eH] at I1
  obtain rfl : u = Value.ref f := r1
  have of1 : s1.heap.get? f = some (lamObj D "<lambda>" (X.env.qual ++ "<lambda>") params body scope (cloFrom X.env.cells scope.names []) pm c' ctv) := I1.base.keep f _ hf hfn hfr (fun z => nomatch (show f ∈ ([] : List Addr) from z))
  have oD1 : s1.heap.get? D = some { cls := .type "tuple", data := .seq #[pv] } := I1.base.keep D _ hD hDn hDr (fun z => nomatch (show D ∈ ([] : List Addr) from z))
  refine PySem.W.callWith_F0 ⟨_, _, _, _, of1⟩ ?_
  have un : Un (frs X.stack) [] H HZ s.heap s1.heap := I1.base
  obtain ⟨⟨oc, vs, t, hoc, hdc, hvc⟩, _, _⟩ := I1.hok c' _ hc
  have rc : codeAny (model X.prog X.w) (X.A.deeper (envOfC qg sg s.heap.objs.size g cdg)) (.call (.ref f) ⟨[], []⟩) (CR (L2.CX X.prog X.w) (envOfC qg sg s.heap.objs.size g cdg :: X.stack) X.prog X.w HZ s1 Q E) s1 := by
    refine PySem.W.kla_callFunE hr.depth of1 rfl L.co L.gen rfl ⟨c', oc, vs, t, rfl, hoc, hdc, hvc⟩ ?_
    obtain ⟨kk, b1, b2⟩ := hbind
    rw [b1]
    refine wpAny_bind (wpAny_seqItems oD1 rfl ?_)
    rw [b2]
    refine wpAny_pure (wpAny_newFunctionEnv (fun y hy => (L.own y hy).2) (fun y hy => ?_) (fun h₁ hns hsb => ⟨I1.nolimit.fresh _ hsb, ?_⟩) L.kind)
    · have e : y = (pa, pv) := by simpa using hy
      rw [e]
      exact L.par
    show codeAny _ _ (.expr body (lamEnv X scope s1.heap.objs.size f c')) _ _
    have kp : ∀ b o, s1.heap.get? b = some o → h₁.get? b = some o := fun b o e => hsb.extBut b o (Nat.ne_of_lt (Heap.lt_size e)) (Heap.get?_push_of_some _ e)
    have J : L2.Inv (lamCx X (X.A.deeper (envOfC qg sg s.heap.objs.size g cdg)) (envOfC qg sg s.heap.objs.size g cdg :: X.stack) s1 HZ E scope f c') [] σ HZ { s1 with heap := h₁, toks := s1.toks + [(pa, pv)].length } :=
      lam_startD I L hpa I1.env0 hr.hd un hns kp
    refine PySem.W.kla_codeExpr (wpAny_mono ((hbody _ _ s1 HZ (hr.deeper _)).run [] _ _ HZ Q J ht) (fun v s' hq => ?_) fun e s' hq => hq)
    obtain ⟨w', H', J', rv, q⟩ := hq
    exact ⟨w', H', J'.os, J'.bare, J'.base, J'.hok, rv, q⟩
  have hx : L2.Passes (L2.CX X.prog X.w) ((cxOf CXg X.prog X.w X.K X.mg X.base Ng qg sg g cdg X.A X.stack s H Eg).tr pn xe) E := passes_call tk hW
  refine wpAny_call (codeAny_mono rc fun r s' hq => ?_)
  cases r with
  | error e => exact hx pinsZ σZ HZ s1 e s' I1 hq
  | ok fl =>
    cases fl with
    | ret u => exact I1.after hq
    | next => exact False.elim hq
    | brk => exact False.elim hq
    | cont => exact False.elim hq
/-- x(lambda a=z: body) -/
theorem pe_lamcallD {T : List (Addr × Str)} {TT : (XK → Hp → VK → Prop) → Hp → VK → Prop} {x a pa : Str} {g c P : Addr} {k : Nat} {pg : Arguments} {bg : List Stmt} {sg : Scope} {dV kV doc pm cdv ct oc : Value} {an od : Option Addr} {osl : Array (Option Value)} {Ng : List Str} {z : Int} {i : Nat} {dpos : Pos}
    {params : Arguments} {body : Expr} {scope : Scope} {t : XK → TE} {p lpos pos : Pos} (hg : Gl X x) (hm : X.mg x = some (.ref g)) (hk : PySem.W.keepIn X.K (.ref g) = true)
    (lk : X.K.lookup g = some ⟨oc, od, .func (PySem.W.fnOf x x pg bg sg dV kV doc pm an cdv ct), osl⟩) (hcg : PySem.W.codeIn X.K cdv x = true) (hb : L2.Binds X.K (PySem.W.fnOf x x pg bg sg dV kV doc pm an cdv ct) [a] []) (Sg : FnScope Ng [a] sg) (hNg : Ng[0]? = some a) (hva : Vis sg a)
    (hG : GivesTo X Ng x sg g cdv bg a (X.env.qual ++ "<lambda>") TT)
    (TB : TabB X.base X.mg c P) (hcode : X.env.code = .ref c) (hmT : (P, X.env.qual ++ "<lambda>") ∈ T) (hu : ∀ p ∈ T, p.1 = P → p.2 = X.env.qual ++ "<lambda>") (hr : Room (k + 2) X.A) (L : LamP X.env.scope scope pa) (hpa : pa ∉ X.N) (hdef : defaultsOf params X.env = ([eval (.Constant (.int z) i dpos) X.env], [])) (hkw : params.kwonlyargs = [])
    (hbind : ∀ (D : Addr) (q : Str) (cl : List (Str × Addr)) (pm cv ctv pv : Value), ∃ kk, bindArgs (lamFn D "<lambda>" q params body scope cl pm cv ctv) ⟨[], []⟩ = seqItems? (.ref D) >>= kk ∧ kk (some #[pv]) = pure [(pa, pv)])
    (hbody : ∀ (A : Around) (outer : List Env) (s : Shared) (H : Hp) (E : XK) (f c' : Addr), Room k (A.deeper (lamEnv X scope s.heap.objs.size f c')) → PE (lamCx X A outer s H E scope f c') body (t E))
    (hdb : (x == ("__debug__" : Str)) = false := by decide) (hd : (a == ("__debug__" : Str)) = false := by decide) (hcd : (a == ("__classdict__" : Str)) = false := by decide) :
    PE X (.Call (.Name x p) [.Lambda params body scope lpos] [] pos) (tLam T TT t) := by
  refine ⟨fun pins s σ H Q I h => ?_⟩
  obtain ⟨hT, h⟩ := h
  refine wpAny_Call_Name_kw (ld_glob I hg hm ?_ hdb)
  refine PySem.W.callWith_K (h₀ := X.base) I.ok.mod.kin hk ?_ (by rfl) (by rfl)
  show wpAny _ _ (spliced ((false, eval (.Lambda params body scope lpos) X.env) :: backTo pos (starEach [] X.env))) _ _ s
  refine Calls.spliced_cons (lam_makeD I TB hcode hmT hu hT hdef hkw (L.has I.ok) fun f c' D tt pm' ctv H1 s' I1 eN T1 hf hfn hfr hco hD hDn hDr => ?_)
  refine Calls.spliced_nil ⟨I1.kIn, ?_⟩
  have rc : codeAny (model X.prog X.w) X.A (.call (.ref g) ⟨[.ref f], []⟩) (CR C8.CX0 X.stack X.prog X.w H1 s' Q C8.E0) s' := by
    refine run_ofS (N := Ng) (ps := [a]) (us := [.ref f]) (vs := [.ref f]) lk hcg Sg hr I1.env0 (hb s' [.ref f] I1.kIn rfl) (.cons rfl .nil) rfl fun hr' => ?_
    obtain ⟨t', ht', hq'⟩ := hG f c' s' H1 Q (fun E H' Q' => t E σ H' Q') (fun W pn xe E p1 p2 tk hW => pe_actD (i := 0) I1 L hpa hf hfn hfr hD hDn hDr (hbind _ _ _ _ _ _ _) tk hW hr' (fun A outer s H hr2 => hbody A outer s H E f c' hr2) hNg hva hd hcd) hco (h H1 eN T1)
    exact ⟨t', ht'.nox, hq'⟩
  refine wpAny_call (codeAny_mono rc fun r s2 hq => ?_)
  cases r with
  | error e => exact (show False from hq).elim
  | ok fl =>
    cases fl with
    | ret u => exact I1.after hq
    | next => exact False.elim hq
    | brk => exact False.elim hq
    | cont => exact False.elim hq
end
end K61

set_option Elab.async false
set_option linter.all false
set_option maxRecDepth 100000
set_option maxHeartbeats 4000000
/-! The walks: what the law hears of a call that is refused. -/
namespace K61
open PySem PySem.Spec PyProof.Rows L2
abbrev s_Lheard : Stmt := top 72
abbrev N_Lheard : List Str := ["_law_ask", "_law_caught", "error", "_law_kinds", "_law_word", "_law_is_so"]
theorem sc_Lheard : FnScope N_Lheard ["_law_ask"] (defScope s_Lheard) := ⟨rfl, rfl, rfl, by decide +kernel, rfl, by decide +kernel, by decide +kernel⟩
/-- the program's error classes -/
structure Errs where
  RopeError : Addr
  BadClock : Addr
  BadRow : Addr
  BadSpace : Addr
  Misfit : Addr
/-- D is asked about by isinstance, its instance's part is read -/
structure ErrD (K : PySem.W.Frag) (Er : Errs) (D : Addr) (b1 b2 b3 b4 : Bool) : Prop where
  ec : ExcC K D
  xf : XfC K D
  np : PySem.W.findIn K (.ref D) "part" = some none
  rope : PySem.W.exmOne K (.ref D) (.ref Er.RopeError) = some true
  k1 : PySem.W.kitOne K (.ref D) (.ref Er.BadClock) = some b1
  k2 : PySem.W.kitOne K (.ref D) (.ref Er.BadRow) = some b2
  k3 : PySem.W.kitOne K (.ref D) (.ref Er.BadSpace) = some b3
  k4 : PySem.W.kitOne K (.ref D) (.ref Er.Misfit) = some b4
structure ErrF (K : PySem.W.Frag) (mg : Str → Option Value) (Er : Errs) : Prop where
  gRope : mg "RopeError" = some (.ref Er.RopeError)
  gBadClock : mg "BadClock" = some (.ref Er.BadClock)
  gBadRow : mg "BadRow" = some (.ref Er.BadRow)
  gBadSpace : mg "BadSpace" = some (.ref Er.BadSpace)
  gMisfit : mg "Misfit" = some (.ref Er.Misfit)
  d1 : ErrD K Er Er.BadClock true false false false
  d2 : ErrD K Er Er.BadRow false true false false
  d3 : ErrD K Er Er.BadSpace false false true false
  d4 : ErrD K Er Er.Misfit false false false true
/-- the word that the law gives a class -/
def Word (Er : Errs) (D : Addr) (w : Str) : Prop := (D = Er.BadClock ∧ w = "clock") ∨ (D = Er.BadRow ∧ w = "row") ∨ (D = Er.BadSpace ∧ w = "space") ∨ (D = Er.Misfit ∧ w = "misfit")
/-- what heard makes of the lambda's reading: it raises; heard gives the class's word and the part -/
def TTheard (K : PySem.W.Frag) (Er : Errs) : (XK → Hp → VK → Prop) → Hp → VK → Prop := fun tl H Q =>
  ∀ Q' : VK, tl (fun cls d H' => ∃ (D dd : Addr) (word part : Str), cls = .ref D ∧ d = some dd ∧ H' dd = some (.xd [("part", .str part)]) ∧ Word Er D word ∧ ∀ (H'' : Hp) (v : V), Same H' H'' → Dp K H'' v (.tuple [.str word, .str part]) → Q v H'') H Q'
/-- the call of what heard got, as a statement -/
def tAsk (f c' : Addr) (q : Str) (tl : XK → Hp → VK → Prop) (W : WX) : TS := fun D σ H => ∃ Ech : XK, (∀ cls d σ' H', Ech cls d H' → W cls d σ' H') ∧ σ[0]? = some (some (.ref f)) ∧ H c' = some (LamX.CodeO c' q) ∧ tl Ech H fun _ H' => D.nx σ H'
theorem ask_body {Y : Cx} {f c' : Addr} {q a : Str} {tl : XK → Hp → VK → Prop} {W : WX} {p1 p2 p3 : Pos} (h : ∀ E : XK, (∀ cls d σ' H', E cls d H' → W cls d σ' H') → PE Y (.Call (.Name a p1) [] [] p2) (fun σZ HZ Q => σZ[0]? = some (some (.ref f)) ∧ HZ c' = some (LamX.CodeO c' q) ∧ tl E HZ Q)) :
    PSs Y [.Expr (.Call (.Name a p1) [] [] p2) p3] (tAsk f c' q tl W) := by
  refine ⟨fun pins s σ H D I hh => ?_⟩
  obtain ⟨Ech, hW, h1, h2, h3⟩ := hh
  exact (pss_one (ps_expr (h Ech hW))).run pins s σ H D I ⟨h1, h2, h3⟩
theorem pss_len {Y : Cx} {st : List Stmt} {t : TS} (n : Nat) (hl : Y.N.length = n) (h : PSs Y st t) : PSs Y st (fun D σ H => σ.length = n → t D σ H) := ⟨fun pins s σ H D I hh => h.run pins s σ H D I (hh (I.len.trans hl))⟩
theorem word_err {K : PySem.W.Frag} {mg : Str → Option Value} {Er : Errs} (EF : ErrF K mg Er) {D : Addr} {w : Str} (h : Word Er D w) : ∃ b1 b2 b3 b4 : Bool, ErrD K Er D b1 b2 b3 b4 ∧ ((b1 = true ∧ w = "clock") ∨ (b1 = false ∧ b2 = true ∧ w = "row") ∨ (b1 = false ∧ b2 = false ∧ b3 = true ∧ w = "space") ∨ (b1 = false ∧ b2 = false ∧ b3 = false ∧ b4 = true ∧ w = "misfit")) := by
  rcases h with ⟨rfl, e⟩ | ⟨rfl, e⟩ | ⟨rfl, e⟩ | ⟨rfl, e⟩
  · exact ⟨_, _, _, _, EF.d1, .inl ⟨rfl, e⟩⟩
  · exact ⟨_, _, _, _, EF.d2, .inr (.inl ⟨rfl, rfl, e⟩)⟩
  · exact ⟨_, _, _, _, EF.d3, .inr (.inr (.inl ⟨rfl, rfl, rfl, e⟩))⟩
  · exact ⟨_, _, _, _, EF.d4, .inr (.inr (.inr ⟨rfl, rfl, rfl, rfl, e⟩))⟩
theorem first_word {b1 b2 b3 b4 : Bool} {word : Str} (h : (b1 = true ∧ word = "clock") ∨ (b1 = false ∧ b2 = true ∧ word = "row") ∨ (b1 = false ∧ b2 = false ∧ b3 = true ∧ word = "space") ∨ (b1 = false ∧ b2 = false ∧ b3 = false ∧ b4 = true ∧ word = "misfit")) :
    (∀ (i : Nat) (w : Str), (["clock", "row", "space", "misfit"] : List Str)[i]? = some w → [b1, b2, b3, b4][i]? = some true → (∀ j : Nat, j < i → [b1, b2, b3, b4][j]? = some false) → w = word) ∧ ¬ (∀ j : Nat, j < 4 → [b1, b2, b3, b4][j]? = some false) := by
  refine ⟨fun i w hw hb hf => ?_, fun hf => ?_⟩
  · have f : ∀ j, j < i → [b1, b2, b3, b4][j]? = some false := hf
    match i, hw, hb with
    | 0, hw, hb =>
      cases hw
      have e : b1 = true := Option.some.inj hb
      rcases h with ⟨_, y⟩ | ⟨x, _⟩ | ⟨x, _⟩ | ⟨x, _⟩
      · exact y.symm
      all_goals rw [e] at x; cases x
    | 1, hw, hb =>
      cases hw
      have e : b2 = true := Option.some.inj hb
      have e0 : b1 = false := Option.some.inj (f 0 (by decide))
      rcases h with ⟨x, _⟩ | ⟨_, _, y⟩ | ⟨_, x, _⟩ | ⟨_, x, _⟩
      · rw [e0] at x; cases x
      · exact y.symm
      all_goals rw [e] at x; cases x
    | 2, hw, hb =>
      cases hw
      have e : b3 = true := Option.some.inj hb
      have e0 : b1 = false := Option.some.inj (f 0 (by decide))
      have e1 : b2 = false := Option.some.inj (f 1 (by decide))
      rcases h with ⟨x, _⟩ | ⟨_, x, _⟩ | ⟨_, _, _, y⟩ | ⟨_, _, x, _⟩
      · rw [e0] at x; cases x
      · rw [e1] at x; cases x
      · exact y.symm
      · rw [e] at x; cases x
    | 3, hw, hb =>
      cases hw
      have e0 : b1 = false := Option.some.inj (f 0 (by decide))
      have e1 : b2 = false := Option.some.inj (f 1 (by decide))
      have e2 : b3 = false := Option.some.inj (f 2 (by decide))
      rcases h with ⟨x, _⟩ | ⟨_, x, _⟩ | ⟨_, _, x, _⟩ | ⟨_, _, _, _, y⟩
      · rw [e0] at x; cases x
      · rw [e1] at x; cases x
      · rw [e2] at x; cases x
      · exact y.symm
  · have e0 : b1 = false := Option.some.inj (hf 0 (by decide))
    have e1 : b2 = false := Option.some.inj (hf 1 (by decide))
    have e2 : b3 = false := Option.some.inj (hf 2 (by decide))
    have e3 : b4 = false := Option.some.inj (hf 3 (by decide))
    rcases h with ⟨x, _⟩ | ⟨_, x, _⟩ | ⟨_, _, x, _⟩ | ⟨_, _, _, x, _⟩
    · rw [e0] at x; cases x
    · rw [e1] at x; cases x
    · rw [e2] at x; cases x
    · rw [e3] at x; cases x
section
variable {X : Cx}
theorem heard_gives (Er : Errs) (EF : ErrF X.K X.mg Er) (B : Bi X.mg) {g : Addr} {cdg : Value} {q : Str} : LamX.GivesTo X N_Lheard "_law_heard" (defScope s_Lheard) g cdg (defBody s_Lheard) "_law_ask" q (TTheard X.K Er) := by
  intro fa c' s H Q tl act hc h
  have nd := sc_Lheard.nd
  refine ⟨_, (pss_cons (ps_asg pe_non (pgn 1 nd))
      (pss_cons (ps_try_keep (i := 2) (c := .ref Er.RopeError) (tb := tAsk fa c' q tl) rfl rfl rfl nd rfl rfl ⟨rfl, by decide, .inl EF.gRope⟩ (fun W pn xe tk _ => ask_body fun E hW => act W pn xe E _ _ tk hW) (fun _ _ _ => pss_len 6 rfl (pss_one (ps_asg (pv 2) (pgn 1 nd)))))
      (pss_cons (ps_asg (pe_lst (pa_cons (pe_tup (pa_cons pe_str (pa_cons (pe_callB call_isX rfl B.isinstance bt_isinstance (pa_cons (pv 1) (pa_cons (pe_glob (v := .ref Er.BadClock) rfl EF.gBadClock rfl) pa_nil))) pa_nil))) (pa_cons (pe_tup (pa_cons pe_str (pa_cons (pe_callB call_isX rfl B.isinstance bt_isinstance (pa_cons (pv 1) (pa_cons (pe_glob (v := .ref Er.BadRow) rfl EF.gBadRow rfl) pa_nil))) pa_nil))) (pa_cons (pe_tup (pa_cons pe_str (pa_cons (pe_callB call_isX rfl B.isinstance bt_isinstance (pa_cons (pv 1) (pa_cons (pe_glob (v := .ref Er.BadSpace) rfl EF.gBadSpace rfl) pa_nil))) pa_nil))) (pa_cons (pe_tup (pa_cons pe_str (pa_cons (pe_callB call_isX rfl B.isinstance bt_isinstance (pa_cons (pv 1) (pa_cons (pe_glob (v := .ref Er.Misfit) rfl EF.gMisfit rfl) pa_nil))) pa_nil))) pa_nil))))) (pgn 3 nd))
      (pss_cons (ps_for PassesOwn.never rfl (pi_list (pv 3)) (pg_tup rfl (pgs_cons (pgn 4 nd) (pgs_cons (pgn 5 nd) pgs_nil)))
      (pss_one (ps_if (pt_val (pv 5)) (pss_one (ps_ret (pe_tup (pa_cons (pv 4) (pa_cons (pe_xv (pv 1)) pa_nil))))) pss_nil)))
      (pss_one (ps_ret (pe_ifExp (pt_cmpR op_isN (pv 1) pe_non (nomark _)) pe_non (pe_tup (pa_cons pe_str (pa_cons pe_non pa_nil)))))))))), ?_⟩
  refine ⟨_, fun cls d σ' H' hE => ?_, rfl, hc, h _⟩
  obtain ⟨D, dd, word, part, rfl, rfl, hdd, hw, q⟩ := hE
  obtain ⟨b1, b2, b3, b4, ed, hword⟩ := word_err EF hw
  refine ⟨ed.rope, fun a ha hl => ?_⟩
  rw [List.length_set] at hl
  match σ', hl with
  | [y0, y1, y2, y3, y4, y5], _ =>
    have s1 : Same H' (upd H' a (ExV (.ref D) (some dd) a)) := same_upd ha
    have ea : upd H' a (ExV (.ref D) (some dd) a) a = some (ExV (.ref D) (some dd) a) := upd_same
    refine ⟨_, rfl, ?_⟩
    dsimp only [gName]
    show tSeq _ _ _ ([y0, some (.ref a), none, y3, y4, y5] : L2.St) (upd H' a (ExV (.ref D) (some dd) a))
    generalize upd H' a (ExV (.ref D) (some dd) a) = H1 at s1 ea
    have hd1 := s1 _ _ hdd
    refine ⟨_, rfl, a, D, dd, _, _, _, b1, rfl, ea, hd1, ed.ec, .own _, ed.k1, (by show 2 ≤ sizeLine; decide), fun T1 hT1 => ?_⟩
    have t1 : Same H1 (upd H1 T1 (.tup [.str "clock", .bl b1])) := same_upd hT1
    have e1 : upd H1 T1 (.tup [.str "clock", .bl b1]) T1 = some (.tup [.str "clock", .bl b1]) := upd_same
    generalize upd H1 T1 (.tup [.str "clock", .bl b1]) = H2 at t1 e1
    refine ⟨_, rfl, a, D, dd, _, _, _, b2, rfl, t1 _ _ ea, t1 _ _ hd1, ed.ec, .own _, ed.k2, (by show 2 ≤ sizeLine; decide), fun T2 hT2 => ?_⟩
    have t2 : Same H2 (upd H2 T2 (.tup [.str "row", .bl b2])) := same_upd hT2
    have e2 : upd H2 T2 (.tup [.str "row", .bl b2]) T2 = some (.tup [.str "row", .bl b2]) := upd_same
    generalize upd H2 T2 (.tup [.str "row", .bl b2]) = H3 at t2 e2
    have t12 := t1.trans t2
    refine ⟨_, rfl, a, D, dd, _, _, _, b3, rfl, t12 _ _ ea, t12 _ _ hd1, ed.ec, .own _, ed.k3, (by show 2 ≤ sizeLine; decide), fun T3 hT3 => ?_⟩
    have t3 : Same H3 (upd H3 T3 (.tup [.str "space", .bl b3])) := same_upd hT3
    have e3 : upd H3 T3 (.tup [.str "space", .bl b3]) T3 = some (.tup [.str "space", .bl b3]) := upd_same
    generalize upd H3 T3 (.tup [.str "space", .bl b3]) = H4 at t3 e3
    have t13 := t12.trans t3
    refine ⟨_, rfl, a, D, dd, _, _, _, b4, rfl, t13 _ _ ea, t13 _ _ hd1, ed.ec, .own _, ed.k4, (by show 2 ≤ sizeLine; decide), fun T4 hT4 => ⟨(by show 4 ≤ sizeLine; decide), fun L hL => ?_⟩⟩
    have t4 : Same H4 (upd H4 T4 (.tup [.str "misfit", .bl b4])) := same_upd hT4
    have e4 : upd H4 T4 (.tup [.str "misfit", .bl b4]) T4 = some (.tup [.str "misfit", .bl b4]) := upd_same
    change upd H4 T4 (.tup [.str "misfit", .bl b4]) L = none at hL
    show gName 3 (.ref L) _ (upd (upd H4 T4 (.tup [.str "misfit", .bl b4])) L (.lst [.ref T1, .ref T2, .ref T3, .ref T4])) _
    generalize upd H4 T4 (.tup [.str "misfit", .bl b4]) = H5 at t4 e4 hL
    have t5 : Same H5 (upd H5 L (.lst [.ref T1, .ref T2, .ref T3, .ref T4])) := same_upd hL
    have e5 : upd H5 L (.lst [.ref T1, .ref T2, .ref T3, .ref T4]) L = some (.lst [.ref T1, .ref T2, .ref T3, .ref T4]) := upd_same
    generalize upd H5 L (.lst [.ref T1, .ref T2, .ref T3, .ref T4]) = H6 at t5 e5
    have t16 := t13.trans (t4.trans t5)
    obtain ⟨fw, fn⟩ := first_word hword
    have items : ∀ (i : Nat) (u : V), [V.ref T1, V.ref T2, V.ref T3, V.ref T4][i]? = some u → ∃ T w b, u = .ref T ∧ H6 T = some (.tup [.str w, .bl b]) ∧ (["clock", "row", "space", "misfit"] : List Str)[i]? = some w ∧ [b1, b2, b3, b4][i]? = some b := fun i u hu => by
      match i, hu with
      | 0, hu => cases hu; exact ⟨T1, _, _, rfl, (t2.trans (t3.trans (t4.trans t5))) _ _ e1, rfl, rfl⟩
      | 1, hu => cases hu; exact ⟨T2, _, _, rfl, (t3.trans (t4.trans t5)) _ _ e2, rfl, rfl⟩
      | 2, hu => cases hu; exact ⟨T3, _, _, rfl, (t4.trans t5) _ _ e3, rfl, rfl⟩
      | 3, hu => cases hu; exact ⟨T4, _, _, rfl, t5 _ _ e4, rfl, rfl⟩
    dsimp only [gName]
    refine ⟨_, rfl, L, rfl, ⟨_, .of e5⟩, ?_⟩
    refine for_it (walk_list (xs := [V.ref T1, V.ref T2, V.ref T3, V.ref T4])) (fun i σ H'' => Same H6 H'' ∧ (∀ j : Nat, j < i → [b1, b2, b3, b4][j]? = some false) ∧ ∃ x4 x5, σ = [y0, some (.ref a), none, some (.ref L), x4, x5]) ⟨Same.refl _, fun j hj => by omega, _, _, rfl⟩ (fun i σ H'' _ z => .of (z.1 _ _ e5)) ?_ ?_
    · rintro i u σ Ha Hb hi ⟨s6, hf, x4, x5, rfl⟩ ⟨rfl, hu⟩
      obtain ⟨T, w, b, rfl, hT, hw1, hb1⟩ := items i u hu
      refine ⟨T, _, rfl, .of (s6 _ _ hT), rfl, _, _, rfl, _, _, rfl, rfl, ?_⟩
      cases b with
      | true =>
        have ew := fw i w hw1 hb1 hf
        refine ⟨_, rfl, _, rfl, iteT ⟨_, rfl, _, rfl, a, D, dd, _, .str part, rfl, (t16.trans s6) _ _ ea, ed.xf, ed.np, (t16.trans s6) _ _ hd1, rfl, (by show 2 ≤ sizeLine; decide), fun T9 hT9 => ?_⟩⟩
        rw [ew]
        refine q _ _ ((s1.trans t16).trans (s6.trans (same_upd hT9))) (.tup (.of upd_same) (.cons (.str _) (.cons (.str _) .nil)))
      | false =>
        refine ⟨_, rfl, _, rfl, iteF ⟨s6, fun j hj => ?_, _, _, rfl⟩⟩
        by_cases e : j = i
        · rw [e]
          exact hb1
        · exact hf j (by omega)
    · rintro σ Ha ⟨_, hf, _⟩
      exact absurd hf fn
end
end K61

set_option Elab.async false
set_option linter.all false
set_option maxRecDepth 100000
set_option maxHeartbeats 4000000
/-! The heap without its tables of code objects; what the law's calls are refused for. -/
namespace K61
open PySem PySem.Spec PyProof.Rows L2
def cut (H : Hp) : Hp := fun b => match H b with
  | some (.tbl _) => none
  | o => o
theorem cut_at {H : Hp} {b : Addr} {o : HO} (h : H b = some o) (n : ∀ ps, o ≠ .tbl ps) : cut H b = some o := by
  unfold cut
  rw [h]
  cases o with
  | tbl ps => exact absurd rfl (n ps)
  | _ => rfl
theorem cut_some {H : Hp} {b : Addr} {o : HO} (h : cut H b = some o) : H b = some o ∧ ∀ ps, o ≠ .tbl ps := by
  unfold cut at h
  cases e : H b with
  | none =>
    rw [e] at h
    cases h
  | some u =>
    rw [e] at h
    cases u with
    | tbl ps => cases h
    | _ =>
      cases h
      exact ⟨rfl, fun ps z => by cases z⟩
theorem same_cut {H : Hp} : Same (cut H) H := fun b o e => (cut_some e).1
theorem ext_cut {H H' : Hp} (h : LamX.ExtN H H') : Same (cut H) H' := fun b o e => h b o (cut_some e).1 (cut_some e).2
theorem cut_free {H : Hp} {b : Addr} (h : H b = none) : cut H b = none := by
  unfold cut
  rw [h]
theorem seq_cut {K : PySem.W.Frag} {H : Hp} {a : Addr} {xs : List V} (h : SqL K H a xs) : SqL K (cut H) a xs := by
  rcases h with (h | ⟨o, h⟩) | h
  · exact .inl (.inl (cut_at h fun _ z => by cases z))
  · exact .inl (.inr ⟨o, cut_at h fun _ z => by cases z⟩)
  · exact .inr h
theorem tup_cut {K : PySem.W.Frag} {H : Hp} {a : Addr} {xs : List V} (h : SqT K H a xs) : SqT K (cut H) a xs := by
  rcases h with (h | ⟨o, h⟩) | h
  · exact .inl (.inl (cut_at h fun _ z => by cases z))
  · exact .inl (.inr ⟨o, cut_at h fun _ z => by cases z⟩)
  · exact .inr h
mutual
theorem dp_cut {K : PySem.W.Frag} {H : Hp} : ∀ {v : V} {d : PyData}, Dp K H v d → Dp K (cut H) v d
  | _, _, .non => .non
  | _, _, .bl b => .bl b
  | _, _, .int i => .int i
  | _, _, .str x => .str x
  | _, _, .lst a b => .lst (seq_cut a) (dpa_cut b)
  | _, _, .tup a b => .tup (tup_cut a) (dpa_cut b)
theorem dpa_cut {K : PySem.W.Frag} {H : Hp} : ∀ {vs : List V} {ds : List PyData}, DpAll K H vs ds → DpAll K (cut H) vs ds
  | _, _, .nil => .nil
  | _, _, .cons a b => .cons (dp_cut a) (dpa_cut b)
end
theorem cut_del {H : Hp} {B : Addr} : Same (cut (del H B)) (del (cut H) B) := fun b o e => by
  obtain ⟨h1, h2⟩ := cut_some e
  have nb : b ≠ B := fun z => by rw [z, del_at] at h1; cases h1
  rw [del_ne nb] at h1 ⊢
  exact cut_at h1 h2
theorem board_cut {K : PySem.W.Frag} {H : Hp} {B A : Addr} {n : Nat} (h : Board K H B A n) : Board K (cut H) B A n := by
  obtain ⟨cells, t, l, h1, h2, h3⟩ := h
  exact ⟨cells, t, l, cut_at h1 (fun _ z => by cases z), cut_del.seq (seq_cut h2), h3⟩
theorem space_cut {K : PySem.W.Frag} {H : Hp} {C : Addr} {v : V} {c : Int} {n : Nat} {rows : List (List Int)} (h : SpaceAt K H C v c n rows) : SpaceAt K (cut H) C v c n rows := by
  obtain ⟨a, dx, r, e, h1, h2⟩ := h
  exact ⟨a, dx, r, e, cut_at h1 (fun _ z => by cases z), dp_cut h2⟩
theorem tyo_cut {K : PySem.W.Frag} {H : Hp} {x : V} {t : Value} (h : TyOf K H x t) : TyOf K (cut H) x t := by
  cases h with
  | non => exact .non
  | bl x => exact .bl x
  | int i => exact .int i
  | str x => exact .str x
  | flt x => exact .flt x
  | lst e => exact .lst (cut_at e fun _ z => by cases z)
  | frz e => exact .frz (cut_at e fun _ z => by cases z)
  | tup e => exact .tup (cut_at e fun _ z => by cases z)
  | dK e => exact .dK (cut_at e fun _ z => by cases z)
  | dT e => exact .dT (cut_at e fun _ z => by cases z)
  | ins e cl ha hn htk hm => exact .ins (cut_at e fun _ z => by cases z) cl ha hn htk hm
theorem tyx_cut {K : PySem.W.Frag} {H : Hp} {x : V} {t : Value} (h : TyX K H x t) : TyX K (cut H) x t := by
  cases h with
  | base h => exact .base (tyo_cut h)
  | byt b => exact .byt b
  | set e => exact .set (cut_at e fun _ z => by cases z)
  | kList e c => exact .kList e c
  | kTuple e c => exact .kTuple e c
  | kDict e c => exact .kDict e c
  | fTuple e => exact .fTuple (cut_at e fun _ z => by cases z)
  | fDict e => exact .fDict (cut_at e fun _ z => by cases z)
theorem seqk_cut {K : PySem.W.Frag} {H : Hp} {x : V} {r : Option (List V)} (h : SeqK K H x r) : SeqK K (cut H) x r := by
  cases h with
  | lst h => exact .lst (seq_cut h)
  | tup h => exact .tup (tup_cut h)
  | no h a b => exact .no (tyx_cut h) a b
/-! ### tables behind a call of the board -/
theorem tabs_sameB {T : List (Addr × Str)} {H H' : Hp} {B : Addr} {xs : List V} (hB : H B = some (.lst xs)) (s : SameB B H H') (t : LamX.Tabs T H) : LamX.Tabs T H' := fun p hp => by
  obtain ⟨ps, h1, h2, h3⟩ := t p hp
  have n1 : p.1 ≠ B := fun z => by rw [z, hB] at h1; cases h1
  refine ⟨ps, sameB_get n1 s h1, h2, fun pos cv hc => ?_⟩
  obtain ⟨c, e1, e2⟩ := h3 pos cv hc
  refine ⟨c, e1, sameB_get (fun z => ?_) s e2⟩
  rw [z, hB] at e2
  cases e2
/-! ### values that are no row, no clock, no space -/
/-- x is no row of a ring by the clock c -/
def BadV (K : PySem.W.Frag) (H : Hp) (c : Int) (x : V) : Prop := ∃ r, SeqK K H x r ∧ (∀ xs, r = some xs → xs.length ≤ 100 ∧ ∀ y ∈ xs, (∃ i, y = V.int i) ∨ ∃ b, y = V.bl b) ∧ sizedB c 4 16 r = false
theorem BadV.same {K : PySem.W.Frag} {H H' : Hp} {c : Int} {x : V} (s : Same H H') (h : BadV K H c x) : BadV K H' c x := by
  obtain ⟨r, h1, h2⟩ := h
  exact ⟨r, h1.same s, h2⟩
theorem BadV.cut {K : PySem.W.Frag} {H : Hp} {c : Int} {x : V} (h : BadV K H c x) : BadV K (cut H) c x := by
  obtain ⟨r, h1, h2⟩ := h
  exact ⟨r, seqk_cut h1, h2⟩
theorem BadV.ty {K : PySem.W.Frag} {H : Hp} {r : Option (List V)} (h : ∀ xs, r = some xs → xs.length ≤ 100 ∧ ∀ y ∈ xs, (∃ i, y = V.int i) ∨ ∃ b, y = V.bl b) : SeqTy K H r := fun xs e => by
  obtain ⟨h1, h2⟩ := h xs e
  refine ⟨Nat.le_trans h1 (by decide), fun H' y _ hy => ?_⟩
  rcases h2 y hy with ⟨i, rfl⟩ | ⟨b, rfl⟩
  · exact tyI_int K H' i
  · exact tyI_bl K H' b
theorem NoSp.cut {K : PySem.W.Frag} {H : Hp} {C : Addr} {x : V} (h : NoSp K H C x) : NoSp K (cut H) C x := by
  obtain ⟨t, h1, h2⟩ := h
  exact ⟨t, tyx_cut h1, h2⟩
end K61

set_option Elab.async false
set_option linter.all false
set_option maxRecDepth 100000
set_option maxHeartbeats 4000000
/-! What the law draws to be refused, and what it hears of it. -/
namespace K61
open PySem PySem.Spec PyProof.Rows L2
theorem cut_ext {H H' : Hp} (h : LamX.ExtN H H') : Same (cut H) (cut H') := fun b o e => cut_at (h b o (cut_some e).1 (cut_some e).2) (cut_some e).2
theorem board_ext {K : PySem.W.Frag} {H H' : Hp} {B A : Addr} {n : Nat} (e : LamX.ExtN H H') (h : Board K H B A n) : Board K H' B A n := (board_cut h).same (ext_cut e)
theorem dp_ext {K : PySem.W.Frag} {H H' : Hp} {v : V} {d : PyData} (e : LamX.ExtN H H') (h : Dp K H v d) : Dp K H' v d := dp_same (ext_cut e) (dp_cut h)
theorem space_ext {K : PySem.W.Frag} {H H' : Hp} {C : Addr} {v : V} {c : Int} {n : Nat} {rows : List (List Int)} (e : LamX.ExtN H H') (h : SpaceAt K H C v c n rows) : SpaceAt K H' C v c n rows := (space_cut h).same (ext_cut e)
theorem badV_ext {K : PySem.W.Frag} {H H' : Hp} {c : Int} {x : V} (e : LamX.ExtN H H') (h : BadV K H c x) : BadV K H' c x := h.cut.same (ext_cut e)
theorem noSp_same {K : PySem.W.Frag} {H H' : Hp} {C : Addr} {x : V} (s : Same H H') (h : NoSp K H C x) : NoSp K H' C x := by
  obtain ⟨t, h1, h2⟩ := h
  exact ⟨t, tyx_same s h1, h2⟩
theorem noSp_ext {K : PySem.W.Frag} {H H' : Hp} {C : Addr} {x : V} (e : LamX.ExtN H H') (h : NoSp K H C x) : NoSp K H' C x := noSp_same (ext_cut e) h.cut
/-- what is heard of a call that is refused -/
theorem heard_go {K : PySem.W.Frag} {Er : Errs} {T : List (Addr × Str)} {t : XK → TE} {σ : L2.St} {H : Hp} {Q : VK} {D : Addr} {word part : Str} (hT : LamX.Tabs T H) (hw : Word Er D word)
    (h : ∀ H1, LamX.ExtN H H1 → ∀ (E : XK) (Q' : VK), (∀ H' d, Same H1 H' → H' d = none → E (.ref D) (some d) (xPart part d H')) → t E σ H1 Q')
    (q : ∀ H' v, LamX.ExtN H H' → LamX.Tabs T H' → Dp K H' v (.tuple [.str word, .str part]) → Q v H') : LamX.tLam T (TTheard K Er) t σ H Q := by
  refine ⟨hT, fun H1 e1 T1 Q' => h H1 e1 _ _ fun H' d s n => ⟨D, d, word, part, rfl, rfl, upd_same, hw, fun H'' v s2 dv => q H'' v ?_ ?_ dv⟩⟩
  · exact e1.trans (LamX.ExtN.of (s.trans ((same_upd n).trans s2)))
  · exact T1.ext (s.trans ((same_upd n).trans s2))
theorem clockB_ok {c : Int} (hc : Clock c) : clockB (.int c) = true := by
  rcases hc with h | h | h | h | h <;> subst h <;> decide
theorem rowf_clock {K : PySem.W.Frag} {H : Hp} {Ck Cr : Addr} {f : Int → List Int → List Int} {x y : V} {c : Int} {Q : VK} {E : XK} (h1 : clockB x = false) (h2 : TyI K H x) (h3 : BadV K H c y)
    (e : ∀ H' d, Same H H' → H' d = none → E (.ref Ck) (some d) (xPart "clock" d H')) : sp_rowf K Ck Cr f [x, y] H Q E := by
  obtain ⟨r, a, b, _⟩ := h3
  exact ⟨x, y, r, rfl, h2, a, BadV.ty b, fun _ d n => e H d (Same.refl _) n, fun z => by rw [h1] at z; cases z⟩
theorem rowf_row {K : PySem.W.Frag} {H : Hp} {Ck Cr : Addr} {f : Int → List Int → List Int} {y : V} {c : Int} {Q : VK} {E : XK} (hc : Clock c) (h3 : BadV K H c y)
    (e : ∀ H' d, Same H H' → H' d = none → E (.ref Cr) (some d) (xPart "row" d H')) : sp_rowf K Ck Cr f [.int c, y] H Q E := by
  obtain ⟨r, a, b, z⟩ := h3
  exact ⟨.int c, y, r, rfl, tyI_int K H c, a, BadV.ty b, fun w => absurd w (by rw [clockB_ok hc]; decide), fun _ => ⟨c, rfl, hc, fun w => absurd w (by rw [z]; decide), fun _ => e⟩⟩
theorem bad_lst {K : PySem.W.Frag} {H : Hp} {c : Int} {a : Addr} {xs : List V} (h : SqL K H a xs) (l : xs.length ≤ 100) (t : ∀ y ∈ xs, (∃ i, y = V.int i) ∨ ∃ b, y = V.bl b)
    (z : ¬ (4 ≤ (xs.length : Int) ∧ (xs.length : Int) < 16 + 1 ∧ ((xs.length : Int) - 4) % 2 = 0) ∨ ∃ y ∈ xs, within 0 (c - 1) y = false) : BadV K H c (.ref a) := by
  refine ⟨some xs, .lst h, fun _ e => by cases e; exact ⟨l, t⟩, ?_⟩
  unfold sizedB
  dsimp only
  rcases z with z | ⟨y, hy, hz⟩
  · rw [decide_eq_false z, Bool.false_and]
  · have e : xs.all (within 0 (c - 1)) = false := List.all_eq_false.mpr ⟨y, hy, by rw [hz]; exact Bool.false_ne_true⟩
    rw [e, Bool.and_false]
theorem bad_rep {K : PySem.W.Frag} {H : Hp} {c : Int} {a : Addr} {n : Nat} {i : Int} (h : H a = some (.lst (List.replicate n (V.int i)))) (l : n ≤ 100)
    (z : ¬ (4 ≤ (n : Int) ∧ (n : Int) < 16 + 1 ∧ ((n : Int) - 4) % 2 = 0) ∨ (n ≠ 0 ∧ within 0 (c - 1) (.int i) = false)) : BadV K H c (.ref a) := by
  refine bad_lst (.of h) (by rw [List.length_replicate]; exact l) (fun y hy => .inl ⟨i, List.eq_of_mem_replicate hy⟩) ?_
  rw [List.length_replicate]
  exact z.imp id fun w => ⟨_, List.mem_replicate.mpr ⟨w.1, rfl⟩, w.2⟩
theorem bad_no {K : PySem.W.Frag} {H : Hp} {c : Int} {x : V} (h : SeqK K H x none) : BadV K H c x := ⟨none, h, fun _ e => (nomatch e), rfl⟩
theorem bad_pick {K : PySem.W.Frag} {H : Hp} {c : Int} {q1 q2 q4 q6 q8 r1 r3 r5 r6 : Addr} {j : Nat} {x : V} (hc : Clock c) (g1 : H q1 = some (.lst [])) (g2 : H q2 = some (.lst [.int 0, .int 0]))
    (g4 : H q4 = some (.lst (List.replicate (5 : Int).toNat [V.int 0]).flatten)) (g6 : H q6 = some (.lst (List.replicate (18 : Int).toNat [V.int 0]).flatten)) (g8 : H q8 = some (.lst (List.replicate (4 : Int).toNat [V.int c]).flatten))
    (k1 : H r1 = some (.lst [.int 0, .int 0, .int 0, .bl true])) (k3 : H r3 = some (.lst (List.replicate (4 : Int).toNat [V.int (-1)]).flatten)) (k5 : H r5 = some (.lst (List.replicate (17 : Int).toNat [V.int 0]).flatten)) (k6 : H r6 = some (.dK []))
    (h : ([.non, .ref q1, .ref q2, .ref q4, .ref q6, .ref q8] ++ [.ref r1, .ref r3, .str "0000", .ref r5, .ref r6, .int 5])[j]? = some x) : BadV K H c x := by
  match j, h with
  | 0, h => cases h; exact bad_no (.no (.base .non) (kit_ty (by decide +kernel : kitB "NoneType" "list" = some false)) (kit_ty (by decide +kernel : kitB "NoneType" "tuple" = some false)))
  | 1, h => cases h; exact bad_rep (n := 0) (i := 0) g1 (by decide) (.inl (by decide))
  | 2, h => cases h; exact bad_rep (n := 2) (i := 0) g2 (by decide) (.inl (by decide))
  | 3, h => cases h; exact bad_rep (n := 5) (i := 0) g4 (by decide) (.inl (by decide))
  | 4, h => cases h; exact bad_rep (n := 18) (i := 0) g6 (by decide) (.inl (by decide))
  | 5, h =>
    cases h
    refine bad_rep (n := 4) (i := c) g8 (by decide) (.inr ⟨by decide, ?_⟩)
    show (decide (0 ≤ c) && decide (c ≤ c - 1)) = false
    rw [decide_eq_false (by omega : ¬ c ≤ c - 1), Bool.and_false]
  | 6, h =>
    cases h
    refine bad_lst (.of k1) (by decide) (fun y hy => ?_) (.inr ⟨.bl true, by decide, rfl⟩)
    rcases List.mem_cons.mp hy with rfl | hy
    · exact .inl ⟨_, rfl⟩
    · rcases List.mem_cons.mp hy with rfl | hy
      · exact .inl ⟨_, rfl⟩
      · rcases List.mem_cons.mp hy with rfl | hy
        · exact .inl ⟨_, rfl⟩
        · exact .inr ⟨true, by simpa using hy⟩
  | 7, h => cases h; exact bad_rep (n := 4) (i := -1) k3 (by decide) (.inr ⟨by decide, rfl⟩)
  | 8, h => cases h; exact bad_no (.no (.base (.str _)) (kit_ty (by decide +kernel : kitB "str" "list" = some false)) (kit_ty (by decide +kernel : kitB "str" "tuple" = some false)))
  | 9, h => cases h; exact bad_rep (n := 17) (i := 0) k5 (by decide) (.inl (by decide))
  | 10, h => cases h; exact bad_no (.no (.base (.dK k6)) (kit_ty (by decide +kernel : kitB "dict" "list" = some false)) (kit_ty (by decide +kernel : kitB "dict" "tuple" = some false)))
  | 11, h => cases h; exact bad_no (.no (.base (.int _)) (kit_ty (by decide +kernel : kitB "int" "list" = some false)) (kit_ty (by decide +kernel : kitB "int" "tuple" = some false)))
/-- what isinstance(.., Space) finds of plain values -/
structure SpN (K : PySem.W.Frag) (C : Addr) : Prop where
  non : PySem.W.kitOne K (.type "NoneType") (.ref C) = some false
  int : PySem.W.kitOne K (.type "int") (.ref C) = some false
  lst : PySem.W.kitOne K (.type "list") (.ref C) = some false
  str : PySem.W.kitOne K (.type "str") (.ref C) = some false
  bl : PySem.W.kitOne K (.type "bool") (.ref C) = some false
theorem odd_pick {K : PySem.W.Frag} {H : Hp} {C D1 w1 : Addr} {z : Str} {xs ys : List V} {j : Nat} {x : V} (SN : SpN K C) (g1 : H D1 = some (.lst xs)) (g2 : H w1 = some (.lst ys))
    (h : [.non, .int 5, .ref D1, .ref w1, .str z, .bl true][j]? = some x) : NoSp K H C x := by
  match j, h with
  | 0, h => cases h; exact ⟨_, .base .non, SN.non⟩
  | 1, h => cases h; exact ⟨_, .base (.int _), SN.int⟩
  | 2, h => cases h; exact ⟨_, .base (.lst g1), SN.lst⟩
  | 3, h => cases h; exact ⟨_, .base (.lst g2), SN.lst⟩
  | 4, h => cases h; exact ⟨_, .base (.str _), SN.str⟩
  | 5, h => cases h; exact ⟨_, .base (.bl _), SN.bl⟩
theorem size_pick {j : Nat} {x : V} (h : [V.int 1, V.int 2, V.int 3, V.int 5, V.int 17, V.int 18, V.int 20, V.int 400][j]? = some x) : ∃ n : Nat, x = .int (n : Int) ∧ 1 ≤ n ∧ n ≤ 400 ∧ ringB n = false := by
  match j, h with
  | 0, h => cases h; exact ⟨1, rfl, by decide, by decide, by decide⟩
  | 1, h => cases h; exact ⟨2, rfl, by decide, by decide, by decide⟩
  | 2, h => cases h; exact ⟨3, rfl, by decide, by decide, by decide⟩
  | 3, h => cases h; exact ⟨5, rfl, by decide, by decide, by decide⟩
  | 4, h => cases h; exact ⟨17, rfl, by decide, by decide, by decide⟩
  | 5, h => cases h; exact ⟨18, rfl, by decide, by decide, by decide⟩
  | 6, h => cases h; exact ⟨20, rfl, by decide, by decide, by decide⟩
  | 7, h => cases h; exact ⟨400, rfl, by decide, by decide, by decide⟩
theorem wide_pick {j : Nat} {x : V} (h : [V.int 8, V.int 9, V.int 16, V.int 400][j]? = some x) : ∃ n : Nat, x = .int (n : Int) ∧ 7 < n ∧ n ≤ 400 := by
  match j, h with
  | 0, h => cases h; exact ⟨8, rfl, by decide, by decide⟩
  | 1, h => cases h; exact ⟨9, rfl, by decide, by decide⟩
  | 2, h => cases h; exact ⟨16, rfl, by decide, by decide⟩
  | 3, h => cases h; exact ⟨400, rfl, by decide, by decide⟩
theorem fair_no {K : PySem.W.Frag} {H : Hp} {C Cs Cm : Addr} {x : V} {Q : VK} {E : XK} (h : NoSp K H C x) (e : ∀ H' d, Same H H' → H' d = none → E (.ref Cs) (some d) (xPart "space" d H')) : sp_fair_of K C Cs Cm [x] H Q E :=
  ⟨x, rfl, .inr ⟨h, fun d n => e H d (Same.refl _) n⟩⟩
theorem fair_wide {K : PySem.W.Frag} {H : Hp} {C Cs Cm : Addr} {x : V} {c : Int} {n : Nat} {Q : VK} {E : XK} (h : SpaceAt K H C x c n []) (hn : 7 < n) (e : ∀ H' d, Same H H' → H' d = none → E (.ref Cm) (some d) (xPart "space" d H')) : sp_fair_of K C Cs Cm [x] H Q E :=
  ⟨x, rfl, .inl ⟨c, n, [], h, fun z => absurd z (by omega), fun _ d n => e H d (Same.refl _) n⟩⟩
theorem half_no {K : PySem.W.Frag} {H : Hp} {C Cs Cm : Addr} {f : Int → List Int → List Int} {x : V} {Q : VK} {E : XK} (h : NoSp K H C x) (e : ∀ H' d, Same H H' → H' d = none → E (.ref Cs) (some d) (xPart "space" d H')) : sp_half K C Cs Cm f [x] H Q E :=
  ⟨x, rfl, .inr ⟨h, fun d n => e H d (Same.refl _) n⟩⟩
theorem half_strange {K : PySem.W.Frag} {H : Hp} {C Cs Cm : Addr} {f : Int → List Int → List Int} {x : V} {c : Int} {n : Nat} {Q : VK} {E : XK} (h : SpaceAt K H C x c n []) (hn : ringB n = false) (e : ∀ H' d, Same H H' → H' d = none → E (.ref Cm) (some d) (xPart "space" d H')) : sp_half K C Cs Cm f [x] H Q E :=
  ⟨x, rfl, .inl ⟨c, n, [], h, fun z => absurd z (by rw [hn]; decide), fun _ => e⟩⟩
/-- a list of the law's that is not the board -/
theorem board_neL {K : PySem.W.Frag} {H : Hp} {B A q : Addr} {n : Nat} {xs : List V} (h : Board K H B A n) (e : H q = some (.lst xs)) (l : xs.length ≠ 3) : q ≠ B := fun z => by
  obtain ⟨cells, t, u, h1, _⟩ := h
  rw [z, h1] at e
  injection e with e
  injection e with e
  rw [← e] at l
  exact l rfl
theorem board_neD {K : PySem.W.Frag} {H : Hp} {B A q : Addr} {n : Nat} {xs : List (Key × V)} (h : Board K H B A n) (e : H q = some (.dK xs)) : q ≠ B := fun z => by
  obtain ⟨cells, t, u, h1, _⟩ := h
  rw [z, h1] at e
  cases e
theorem new_seq {K : PySem.W.Frag} {H : Hp} {B A S : Addr} {n : Nat} {xs : List V} (hb : Board K H B A n) (hS : H S = none) : SqL K (del (upd H S (.lst xs)) B) S xs := .of (by rw [del_ne (hb.ne hS)]; exact upd_same)
theorem iteFb {b : Bool} {A B : Prop} (h : b = false) (q : B) : if b = true then A else B := by
  subst h
  exact q
theorem no_rows {K : PySem.W.Frag} {H : Hp} {a : Addr} (e : H a = some (.lst [])) : RowsV K H (.ref a) [] := ⟨a, [], rfl, .inl (.of e), .nil⟩
theorem ext_lst {H H' : Hp} {a : Addr} {xs : List V} (e : LamX.ExtN H H') (h : H a = some (.lst xs)) : H' a = some (.lst xs) := e a _ h fun _ z => by cases z
theorem ext_same {H H' : Hp} (s : Same H H') : LamX.ExtN H H' := LamX.ExtN.of s
end K61

set_option Elab.async false
set_option linter.all false
set_option maxRecDepth 100000
set_option maxHeartbeats 8000000
/-! The walks: the law's turn, from what is refused on. -/
namespace K61
open PySem PySem.Spec PyProof.Rows L2
section
variable (K : PySem.W.Frag) (C PL : Addr) (Er : Errs)
/-- a call of heard -/
def tHw (sp : Sp) (ta : TA) : TE := LamX.tLam [(PL, "law.<locals>.<lambda>")] (TTheard K Er) fun x => tCall sp [] x ta
def tPair (x y : Str) : TE := tTup (tCons (tC (.str x)) (tCons (tC (.str y)) tNil))
def tHeard1 : TE := tLst (tCons (tHw K PL Er (sp_rowf K Er.BadClock Er.BadRow whitesOf) (tCons (tVar 10) (tCons (tVar 12) tNil))) (tCons (tHw K PL Er (sp_rowf K Er.BadClock Er.BadRow whitesOf) (tCons (tVar 3) (tCons (tVar 12) tNil)))
  (tCons (tHw K PL Er (sp_rowf K Er.BadClock Er.BadRow blacksOf) (tCons (tVar 10) (tCons (tVar 12) tNil))) (tCons (tHw K PL Er (sp_rowf K Er.BadClock Er.BadRow blacksOf) (tCons (tVar 3) (tCons (tVar 12) tNil))) tNil))))
def tOdd : TE := tTup (tCons (tCall (sp_pick K) [] E0 (tCons (tVar 1) (tCons (tLst (tCons (tC .non) (tCons (tC (.int 5)) (tCons (tVar 5) (tCons (tLst (tCons (tVar 5) tNil)) (tCons (tC (.str "clock 5 size 4")) (tCons (tC (.bl true)) tNil))))))) tNil)))
  (tCons (tCall (sp_pick K) [] E0 (tCons (tVar 1) (tCons (tLst (tCons (tC (.int 1)) (tCons (tC (.int 2)) (tCons (tC (.int 3)) (tCons (tC (.int 5)) (tCons (tC (.int 17)) (tCons (tC (.int 18)) (tCons (tC (.int 20)) (tCons (tC (.int 400)) tNil))))))))) tNil))) tNil))
def tHeard2 (i j : Nat) : TE := tLst (tCons (tHw K PL Er (sp_fair_of K C Er.BadSpace Er.Misfit) (tCons (tVar i) tNil)) (tCons (tHw K PL Er (sp_half K C Er.BadSpace Er.Misfit whitesOf) (tCons (tVar j) tNil))
  (tCons (tHw K PL Er (sp_half K C Er.BadSpace Er.Misfit blacksOf) (tCons (tVar j) tNil)) tNil)))
def tSpaces : TE := tTup (tCons (tMake C (sp_init K C) [] E0 (tCons (tVar 3) (tCons (tCall (sp_pick K) [] E0 (tCons (tVar 1) (tCons (tLst (tCons (tC (.int 8)) (tCons (tC (.int 9)) (tCons (tC (.int 16)) (tCons (tC (.int 400)) tNil))))) tNil))) (tCons (tLst tNil) tNil))))
  (tCons (tMake C (sp_init K C) [] E0 (tCons (tVar 3) (tCons (tVar 15) (tCons (tLst tNil) tNil)))) tNil))
def tWanted : TE := tOp rCat (tOp rCat (tOp L2.rRep (tLst (tCons (tPair "clock" "clock") (tCons (tPair "row" "row") tNil))) (tC (.int 2))) (tOp L2.rRep (tLst (tCons (tPair "space" "space") tNil)) (tC (.int 3)))) (tOp L2.rRep (tLst (tCons (tPair "misfit" "space") tNil)) (tC (.int 3)))
def tTail : TS := tSeq (tAsg (tHeard1 K PL Er) (gName 13)) (tSeq (tAsg (tOdd K) (gTup K 2 (gCons (gName 14) (gCons (gName 15) gNil)))) (tSeq (tAsg (tOp rCat (tVar 13) (tHeard2 K C PL Er 14 14)) (gName 13))
  (tSeq (tAsg (tSpaces K C) (gTup K 2 (gCons (gName 16) (gCons (gName 17) gNil)))) (tSeq (tAsg (tOp rCat (tVar 13) (tHeard2 K C PL Er 16 17)) (gName 13))
    (tIfS (tTest (tOp (rNeD K) (tVar 13) tWanted)) (tRet (tC (.bl false))) tNext)))))
end
/-- a pair of texts -/
abbrev dSS (x y : Str) : PyData := .tuple [.str x, .str y]
variable {K : PySem.W.Frag} {C PL : Addr} {Er : Errs}
theorem pair_sameB {H H' : Hp} {B : Addr} {ys : List V} {v : V} {x y : Str} (hB : H B = some (.lst ys)) (s : SameB B H H') (h : Dp K H v (dSS x y)) : Dp K H' v (dSS x y) := by
  obtain ⟨a, vs, rfl, q, p⟩ := dp_tup' h
  cases p with
  | cons p1 p =>
    cases p1
    cases p with
    | cons p1 p =>
      cases p1
      cases p
      exact .tup (same_tup same_del (same_tup s (tup_del q hB))) (.cons (.str _) (.cons (.str _) .nil))
theorem law_tail {D : Ends} {H : Hp} {B A D1 : Addr} {bud : Nat} {c : Int} {ds : List V} {xn xb : V} {y0 y2 y4 y6 y7 y8 y9 y11 y13 y14 y15 y16 y17 y18 y19 y20 : Option V}
    (SN : SpN K C) (hc : Clock c) (hb : Board K H B A (bud + 3)) (hT : LamX.Tabs [(PL, "law.<locals>.<lambda>")] H) (n1 : clockB xn = false) (n2 : ∀ H, TyI K H xn) (hbad : BadV K H c xb) (h1 : H D1 = some (.lst ds)) (hl : ds.length ≠ 3)
    (q : ∀ (H' : Hp) (z13 z14 z15 z16 z17 : Option V), Board K H' B A bud → LamX.Tabs [(PL, "law.<locals>.<lambda>")] H' → D.nx [y0, some (.ref B), y2, some (.int c), y4, some (.ref D1), y6, y7, y8, y9, some xn, y11, some xb, z13, z14, z15, z16, z17, y18, y19, y20] H') :
    tTail K C PL Er D [y0, some (.ref B), y2, some (.int c), y4, some (.ref D1), y6, y7, y8, y9, some xn, y11, some xb, y13, y14, y15, y16, y17, y18, y19, y20] H := by
  -- heard: rows
  refine heard_go hT (.inl ⟨rfl, rfl⟩) (fun Hx e E Q' er => ⟨_, rfl, _, rfl, rowf_clock n1 (n2 _) (badV_ext e hbad) er⟩) fun Ha a1 ea Ta da1 => ?_
  refine heard_go Ta (.inr (.inl ⟨rfl, rfl⟩)) (fun Hx e E Q' er => ⟨_, rfl, _, rfl, rowf_row hc (badV_ext (ea.trans e) hbad) er⟩) fun Hb a2 eb Tb da2 => ?_
  have eb' := ea.trans eb
  refine heard_go Tb (.inl ⟨rfl, rfl⟩) (fun Hx e E Q' er => ⟨_, rfl, _, rfl, rowf_clock n1 (n2 _) (badV_ext (eb'.trans e) hbad) er⟩) fun Hc a3 ec Tc da3 => ?_
  have ec' := eb'.trans ec
  refine heard_go Tc (.inr (.inl ⟨rfl, rfl⟩)) (fun Hx e E Q' er => ⟨_, rfl, _, rfl, rowf_row hc (badV_ext (ec'.trans e) hbad) er⟩) fun Hd a4 ed Td da4 => ?_
  have ed' := ec'.trans ed
  refine ⟨(by show 4 ≤ sizeLine; decide), fun p1 hp1 => ?_⟩
  have s1 := same_upd (o := .lst [a1, a2, a3, a4]) hp1
  have g1 : upd Hd p1 (.lst [a1, a2, a3, a4]) p1 = some (.lst [a1, a2, a3, a4]) := upd_same
  dsimp only [gName]
  generalize upd Hd p1 (.lst [a1, a2, a3, a4]) = H1 at s1 g1 ⊢
  have e1 := ed'.trans (ext_same s1)
  have T1 := Td.ext s1
  have d1 := dp_ext ((eb.trans (ec.trans ed)).trans (ext_same s1)) da1
  have d2 := dp_ext ((ec.trans ed).trans (ext_same s1)) da2
  have d3 := dp_ext (ed.trans (ext_same s1)) da3
  have d4 := dp_same s1 da4
  have hb1 := board_ext e1 hb
  show tSeq _ _ _ _ _
  -- odd, size
  have g2 := ext_lst e1 h1
  refine ⟨_, rfl, _, rfl, _, rfl, (by show 1 ≤ sizeLine; decide), fun w1 hw1 => ⟨(by show 6 ≤ sizeLine; decide), fun S5 hS5 => ?_⟩⟩
  have s2 := same_upd (o := .lst [.ref D1]) hw1
  have g3 : upd H1 w1 (.lst [.ref D1]) w1 = some (.lst [.ref D1]) := upd_same
  generalize upd H1 w1 (.lst [.ref D1]) = H2 at s2 g3 hS5 ⊢
  have hb2 : Board K H2 B A (bud + 2 + 1) := hb1.same s2
  refine ⟨B, A, S5, bud + 2, _, rfl, hb2.same (same_upd hS5), new_seq hb2 hS5, (by show 0 < 6; decide), (by show 6 < 1000; decide), fun H3 j5 xo s3 hb3 hj5 => ?_⟩
  have v3 : SameB B H2 H3 := (SameB.of (same_upd hS5)).trans s3
  refine ⟨_, rfl, (by show 8 ≤ sizeLine; decide), fun S6 hS6 => ⟨B, A, S6, bud + 1, _, rfl, hb3.same (same_upd hS6), new_seq hb3 hS6, (by show 0 < 8; decide), (by show 8 < 1000; decide), fun H4 j6 xs s4 hb4 hj6 => ?_⟩⟩
  have v4 : SameB B H2 H4 := v3.trans ((SameB.of (same_upd hS6)).trans s4)
  have g2' : H4 D1 = some (.lst ds) := sameB_get (board_neL hb2 (s2 _ _ g2) hl) v4 (s2 _ _ g2)
  have g3' : H4 w1 = some (.lst [.ref D1]) := sameB_get (board_neL hb2 g3 (by show 1 ≠ 3; decide)) v4 g3
  have g1' : H4 p1 = some (.lst [a1, a2, a3, a4]) := sameB_get (board_neL hb2 (s2 _ _ g1) (by show 4 ≠ 3; decide)) v4 (s2 _ _ g1)
  have hno : NoSp K H4 C xo := odd_pick SN g2' g3' hj5
  obtain ⟨n, rfl, n1', n2', n3'⟩ := size_pick hj6
  obtain ⟨bs, hbs⟩ := hb2.at
  have T4 := tabs_sameB hbs v4 (T1.ext s2)
  have d1 := pair_sameB hbs v4 (dp_same s2 d1)
  have d2 := pair_sameB hbs v4 (dp_same s2 d2)
  have d3 := pair_sameB hbs v4 (dp_same s2 d3)
  have d4 := pair_sameB hbs v4 (dp_same s2 d4)
  refine ⟨(by show 2 ≤ sizeLine; decide), fun t6 ht6 => ⟨t6, _, rfl, .of upd_same, rfl, _, _, rfl, _, _, rfl, rfl, ?_⟩⟩
  have s5 := same_upd (o := .tup [xo, .int (n : Int)]) ht6
  dsimp only [gName]
  generalize upd H4 t6 (.tup [xo, .int (n : Int)]) = H5 at s5 ⊢
  have T5 := T4.ext s5
  have hno5 := noSp_same s5 hno
  have hb5 := hb4.same s5
  show tSeq _ _ _ _ _
  -- heard: no spaces
  refine ⟨_, rfl, ?_⟩
  refine heard_go T5 (.inr (.inr (.inl ⟨rfl, rfl⟩))) (fun Hx e E Q' er => ⟨_, rfl, fair_no (noSp_ext e hno5) er⟩) fun Ha a5 ea Ta da5 => ?_
  refine heard_go Ta (.inr (.inr (.inl ⟨rfl, rfl⟩))) (fun Hx e E Q' er => ⟨_, rfl, half_no (noSp_ext (ea.trans e) hno5) er⟩) fun Hb a6 eb Tb da6 => ?_
  have eb' := ea.trans eb
  refine heard_go Tb (.inr (.inr (.inl ⟨rfl, rfl⟩))) (fun Hx e E Q' er => ⟨_, rfl, half_no (noSp_ext (eb'.trans e) hno5) er⟩) fun Hc a7 ec Tc da7 => ?_
  have ec' := eb'.trans ec
  refine ⟨(by show 3 ≤ sizeLine; decide), fun p2 hp2 => ⟨p1, p2, [a1, a2, a3, a4], _, rfl, rfl, ?_, upd_same, (by show 4 + 3 ≤ sizeLine; decide), fun p3 hp3 => ?_⟩⟩
  · exact same_upd hp2 _ _ (ext_lst ec' (s5 _ _ g1'))
  have s6 := (same_upd (o := .lst [a5, a6, a7]) hp2).trans (same_upd (o := .lst ([a1, a2, a3, a4] ++ [a5, a6, a7])) hp3)
  have g4 : upd (upd Hc p2 (.lst [a5, a6, a7])) p3 (.lst ([a1, a2, a3, a4] ++ [a5, a6, a7])) p3 = some (.lst [a1, a2, a3, a4, a5, a6, a7]) := upd_same
  dsimp only [gName]
  generalize upd (upd Hc p2 (.lst [a5, a6, a7])) p3 (.lst ([a1, a2, a3, a4] ++ [a5, a6, a7])) = H6 at s6 g4 ⊢
  have e6 := (ext_same s5).trans (ec'.trans (ext_same s6))
  have T6 := Tc.ext s6
  have hb6 : Board K H6 B A (bud + 1) := board_ext e6 hb4
  have d1 := dp_ext e6 d1
  have d2 := dp_ext e6 d2
  have d3 := dp_ext e6 d3
  have d4 := dp_ext e6 d4
  have d5 := dp_ext ((eb.trans ec).trans (ext_same s6)) da5
  have d6 := dp_ext (ec.trans (ext_same s6)) da6
  have d7 := dp_same s6 da7
  show tSeq _ _ _ _ _
  -- wide, strange
  refine ⟨_, rfl, _, rfl, (by show 4 ≤ sizeLine; decide), fun S7 hS7 => ⟨B, A, S7, bud, _, rfl, hb6.same (same_upd hS7), new_seq hb6 hS7, (by show 0 < 4; decide), (by show 4 < 1000; decide), fun H7 j7 xw s7 hb7 hj7 => ?_⟩⟩
  have v7 : SameB B H6 H7 := (SameB.of (same_upd hS7)).trans s7
  obtain ⟨nw, rfl, m1', m2'⟩ := wide_pick hj7
  obtain ⟨bs6, hbs6⟩ := hb6.at
  have T7 := tabs_sameB hbs6 v7 T6
  have g4' : H7 p3 = some (.lst [a1, a2, a3, a4, a5, a6, a7]) := sameB_get (board_neL hb6 g4 (by show 7 ≠ 3; decide)) v7 g4
  have d1 := pair_sameB hbs6 v7 d1
  have d2 := pair_sameB hbs6 v7 d2
  have d3 := pair_sameB hbs6 v7 d3
  have d4 := pair_sameB hbs6 v7 d4
  have d5 := pair_sameB hbs6 v7 d5
  have d6 := pair_sameB hbs6 v7 d6
  have d7 := pair_sameB hbs6 v7 d7
  refine ⟨(by show 0 ≤ sizeLine; decide), fun z1 hz1 => ?_⟩
  refine made2 (K := K) (C := C) rfl (no_rows upd_same) hc (by omega) (by omega) (fun _ h => by cases h) (by decide) fun H8 aW s8 hW => ?_
  have hW : SpaceAt K H8 C (.ref aW) c nw [] := hW
  refine ⟨_, rfl, _, rfl, (by show 0 ≤ sizeLine; decide), fun z2 hz2 => ?_⟩
  refine made2 (K := K) (C := C) rfl (no_rows upd_same) hc n1' n2' (fun _ h => by cases h) (by decide) fun H9 aS s9 hS => ?_
  have hS : SpaceAt K H9 C (.ref aS) c n [] := hS
  refine ⟨(by show 2 ≤ sizeLine; decide), fun t7 ht7 => ⟨t7, _, rfl, .of upd_same, rfl, _, _, rfl, _, _, rfl, rfl, ?_⟩⟩
  have s10 := same_upd (o := .tup [.ref aW, .ref aS]) ht7
  have s810 := ((same_upd hz2).trans s9).trans s10
  have s710 := ((same_upd hz1).trans s8).trans s810
  dsimp only [gName]
  generalize upd H9 t7 (.tup [.ref aW, .ref aS]) = H10 at s10 s810 s710 ⊢
  have hW := hW.same s810
  have hS := hS.same s10
  have T10 := T7.ext s710
  have hb10 := hb7.same s710
  show tSeq _ _ _ _ _
  -- heard: misfits
  refine ⟨_, rfl, ?_⟩
  refine heard_go T10 (.inr (.inr (.inr ⟨rfl, rfl⟩))) (fun Hx e E Q' er => ⟨_, rfl, fair_wide (space_ext e hW) m1' er⟩) fun Hd a8 ea Ta da8 => ?_
  refine heard_go Ta (.inr (.inr (.inr ⟨rfl, rfl⟩))) (fun Hx e E Q' er => ⟨_, rfl, half_strange (space_ext (ea.trans e) hS) n3' er⟩) fun He a9 eb Tb da9 => ?_
  have eb' := ea.trans eb
  refine heard_go Tb (.inr (.inr (.inr ⟨rfl, rfl⟩))) (fun Hx e E Q' er => ⟨_, rfl, half_strange (space_ext (eb'.trans e) hS) n3' er⟩) fun Hf a10 ec Tc da10 => ?_
  have ec' := eb'.trans ec
  refine ⟨(by show 3 ≤ sizeLine; decide), fun p4 hp4 => ⟨p3, p4, [a1, a2, a3, a4, a5, a6, a7], _, rfl, rfl, ?_, upd_same, (by show 7 + 3 ≤ sizeLine; decide), fun p5 hp5 => ?_⟩⟩
  · exact same_upd hp4 _ _ (ext_lst ec' (s710 _ _ g4'))
  have s11 := (same_upd (o := .lst [a8, a9, a10]) hp4).trans (same_upd (o := .lst ([a1, a2, a3, a4, a5, a6, a7] ++ [a8, a9, a10])) hp5)
  have g5 : upd (upd Hf p4 (.lst [a8, a9, a10])) p5 (.lst ([a1, a2, a3, a4, a5, a6, a7] ++ [a8, a9, a10])) p5 = some (.lst [a1, a2, a3, a4, a5, a6, a7, a8, a9, a10]) := upd_same
  dsimp only [gName]
  generalize upd (upd Hf p4 (.lst [a8, a9, a10])) p5 (.lst ([a1, a2, a3, a4, a5, a6, a7] ++ [a8, a9, a10])) = H11 at s11 g5 ⊢
  have e11 := (ext_same s710).trans (ec'.trans (ext_same s11))
  have T11 := Tc.ext s11
  have hb11 : Board K H11 B A bud := board_ext e11 hb7
  have dl : DpAll K H11 [a1, a2, a3, a4, a5, a6, a7, a8, a9, a10] [dSS "clock" "clock", dSS "row" "row", dSS "clock" "clock", dSS "row" "row", dSS "space" "space", dSS "space" "space", dSS "space" "space", dSS "misfit" "space", dSS "misfit" "space", dSS "misfit" "space"] :=
    .cons (dp_ext e11 d1) (.cons (dp_ext e11 d2) (.cons (dp_ext e11 d3) (.cons (dp_ext e11 d4) (.cons (dp_ext e11 d5) (.cons (dp_ext e11 d6) (.cons (dp_ext e11 d7) (.cons (dp_ext ((eb.trans ec).trans (ext_same s11)) da8) (.cons (dp_ext (ec.trans (ext_same s11)) da9) (.cons (dp_same s11 da10) .nil)))))))))
  -- if heard != wanted
  refine ⟨_, rfl, (by show 2 ≤ sizeLine; decide), fun k1 hk1 => ⟨(by show 2 ≤ sizeLine; decide), fun k2 hk2 => ⟨(by show 2 ≤ sizeLine; decide), fun k3 hk3 => ⟨k3, 2, _, rfl, rfl, upd_same, by decide, by decide, (by show 2 * 2 ≤ sizeLine; decide), fun k4 hk4 => ⟨(by show 2 ≤ sizeLine; decide), fun k5 hk5 => ⟨(by show 1 ≤ sizeLine; decide), fun k6 hk6 => ⟨k6, 3, _, rfl, rfl, upd_same, by decide, by decide, (by show 1 * 3 ≤ sizeLine; decide), fun k7 hk7 => ⟨k4, k7, (List.replicate (2 : Int).toNat [V.ref k1, V.ref k2]).flatten, _, rfl, rfl, ?_, upd_same, (by show 4 + 3 ≤ sizeLine; decide), fun k8 hk8 => ⟨(by show 2 ≤ sizeLine; decide), fun k9 hk9 => ⟨(by show 1 ≤ sizeLine; decide), fun k10 hk10 => ⟨k10, 3, _, rfl, rfl, upd_same, by decide, by decide, (by show 1 * 3 ≤ sizeLine; decide), fun k11 hk11 => ⟨k8, k11, ((List.replicate (2 : Int).toNat [V.ref k1, V.ref k2]).flatten ++ (List.replicate (3 : Int).toNat [V.ref k5]).flatten), _, rfl, rfl, ?_, upd_same, (by show 7 + 3 ≤ sizeLine; decide), fun k12 hk12 => ?_⟩⟩⟩⟩⟩⟩⟩⟩⟩⟩⟩⟩
  · exact ((same_upd hk5).trans ((same_upd hk6).trans (same_upd hk7))) _ _ upd_same
  · exact ((same_upd hk9).trans ((same_upd hk10).trans (same_upd hk11))) _ _ upd_same
  have u1 := same_upd (o := (.tup [.str "clock", .str "clock"])) hk1
  have u2 := same_upd (o := (.tup [.str "row", .str "row"])) hk2
  have u3 := same_upd (o := (.lst [.ref k1, .ref k2])) hk3
  have u4 := same_upd (o := (.lst (List.replicate (2 : Int).toNat [V.ref k1, V.ref k2]).flatten)) hk4
  have u5 := same_upd (o := (.tup [.str "space", .str "space"])) hk5
  have u6 := same_upd (o := (.lst [.ref k5])) hk6
  have u7 := same_upd (o := (.lst (List.replicate (3 : Int).toNat [V.ref k5]).flatten)) hk7
  have u8 := same_upd (o := (.lst ((List.replicate (2 : Int).toNat [V.ref k1, V.ref k2]).flatten ++ (List.replicate (3 : Int).toNat [V.ref k5]).flatten))) hk8
  have u9 := same_upd (o := (.tup [.str "misfit", .str "space"])) hk9
  have u10 := same_upd (o := (.lst [.ref k9])) hk10
  have u11 := same_upd (o := (.lst (List.replicate (3 : Int).toNat [V.ref k9]).flatten)) hk11
  have u12 := same_upd (o := (.lst (((List.replicate (2 : Int).toNat [V.ref k1, V.ref k2]).flatten ++ (List.replicate (3 : Int).toNat [V.ref k5]).flatten) ++ (List.replicate (3 : Int).toNat [V.ref k9]).flatten))) hk12
  have b1 : (upd (upd (upd (upd (upd (upd (upd (upd (upd (upd (upd (upd H11 k1 (.tup [.str "clock", .str "clock"])) k2 (.tup [.str "row", .str "row"])) k3 (.lst [.ref k1, .ref k2])) k4 (.lst (List.replicate (2 : Int).toNat [V.ref k1, V.ref k2]).flatten)) k5 (.tup [.str "space", .str "space"])) k6 (.lst [.ref k5])) k7 (.lst (List.replicate (3 : Int).toNat [V.ref k5]).flatten)) k8 (.lst ((List.replicate (2 : Int).toNat [V.ref k1, V.ref k2]).flatten ++ (List.replicate (3 : Int).toNat [V.ref k5]).flatten))) k9 (.tup [.str "misfit", .str "space"])) k10 (.lst [.ref k9])) k11 (.lst (List.replicate (3 : Int).toNat [V.ref k9]).flatten)) k12 (.lst (((List.replicate (2 : Int).toNat [V.ref k1, V.ref k2]).flatten ++ (List.replicate (3 : Int).toNat [V.ref k5]).flatten) ++ (List.replicate (3 : Int).toNat [V.ref k9]).flatten))) k1 = some (.tup [.str "clock", .str "clock"]) := (u2.trans (u3.trans (u4.trans (u5.trans (u6.trans (u7.trans (u8.trans (u9.trans (u10.trans (u11.trans u12)))))))))) _ _ upd_same
  have b2 : (upd (upd (upd (upd (upd (upd (upd (upd (upd (upd (upd (upd H11 k1 (.tup [.str "clock", .str "clock"])) k2 (.tup [.str "row", .str "row"])) k3 (.lst [.ref k1, .ref k2])) k4 (.lst (List.replicate (2 : Int).toNat [V.ref k1, V.ref k2]).flatten)) k5 (.tup [.str "space", .str "space"])) k6 (.lst [.ref k5])) k7 (.lst (List.replicate (3 : Int).toNat [V.ref k5]).flatten)) k8 (.lst ((List.replicate (2 : Int).toNat [V.ref k1, V.ref k2]).flatten ++ (List.replicate (3 : Int).toNat [V.ref k5]).flatten))) k9 (.tup [.str "misfit", .str "space"])) k10 (.lst [.ref k9])) k11 (.lst (List.replicate (3 : Int).toNat [V.ref k9]).flatten)) k12 (.lst (((List.replicate (2 : Int).toNat [V.ref k1, V.ref k2]).flatten ++ (List.replicate (3 : Int).toNat [V.ref k5]).flatten) ++ (List.replicate (3 : Int).toNat [V.ref k9]).flatten))) k2 = some (.tup [.str "row", .str "row"]) := (u3.trans (u4.trans (u5.trans (u6.trans (u7.trans (u8.trans (u9.trans (u10.trans (u11.trans u12))))))))) _ _ upd_same
  have b5 : (upd (upd (upd (upd (upd (upd (upd (upd (upd (upd (upd (upd H11 k1 (.tup [.str "clock", .str "clock"])) k2 (.tup [.str "row", .str "row"])) k3 (.lst [.ref k1, .ref k2])) k4 (.lst (List.replicate (2 : Int).toNat [V.ref k1, V.ref k2]).flatten)) k5 (.tup [.str "space", .str "space"])) k6 (.lst [.ref k5])) k7 (.lst (List.replicate (3 : Int).toNat [V.ref k5]).flatten)) k8 (.lst ((List.replicate (2 : Int).toNat [V.ref k1, V.ref k2]).flatten ++ (List.replicate (3 : Int).toNat [V.ref k5]).flatten))) k9 (.tup [.str "misfit", .str "space"])) k10 (.lst [.ref k9])) k11 (.lst (List.replicate (3 : Int).toNat [V.ref k9]).flatten)) k12 (.lst (((List.replicate (2 : Int).toNat [V.ref k1, V.ref k2]).flatten ++ (List.replicate (3 : Int).toNat [V.ref k5]).flatten) ++ (List.replicate (3 : Int).toNat [V.ref k9]).flatten))) k5 = some (.tup [.str "space", .str "space"]) := (u6.trans (u7.trans (u8.trans (u9.trans (u10.trans (u11.trans u12)))))) _ _ upd_same
  have b9 : (upd (upd (upd (upd (upd (upd (upd (upd (upd (upd (upd (upd H11 k1 (.tup [.str "clock", .str "clock"])) k2 (.tup [.str "row", .str "row"])) k3 (.lst [.ref k1, .ref k2])) k4 (.lst (List.replicate (2 : Int).toNat [V.ref k1, V.ref k2]).flatten)) k5 (.tup [.str "space", .str "space"])) k6 (.lst [.ref k5])) k7 (.lst (List.replicate (3 : Int).toNat [V.ref k5]).flatten)) k8 (.lst ((List.replicate (2 : Int).toNat [V.ref k1, V.ref k2]).flatten ++ (List.replicate (3 : Int).toNat [V.ref k5]).flatten))) k9 (.tup [.str "misfit", .str "space"])) k10 (.lst [.ref k9])) k11 (.lst (List.replicate (3 : Int).toNat [V.ref k9]).flatten)) k12 (.lst (((List.replicate (2 : Int).toNat [V.ref k1, V.ref k2]).flatten ++ (List.replicate (3 : Int).toNat [V.ref k5]).flatten) ++ (List.replicate (3 : Int).toNat [V.ref k9]).flatten))) k9 = some (.tup [.str "misfit", .str "space"]) := (u10.trans (u11.trans u12)) _ _ upd_same
  have b12 : (upd (upd (upd (upd (upd (upd (upd (upd (upd (upd (upd (upd H11 k1 (.tup [.str "clock", .str "clock"])) k2 (.tup [.str "row", .str "row"])) k3 (.lst [.ref k1, .ref k2])) k4 (.lst (List.replicate (2 : Int).toNat [V.ref k1, V.ref k2]).flatten)) k5 (.tup [.str "space", .str "space"])) k6 (.lst [.ref k5])) k7 (.lst (List.replicate (3 : Int).toNat [V.ref k5]).flatten)) k8 (.lst ((List.replicate (2 : Int).toNat [V.ref k1, V.ref k2]).flatten ++ (List.replicate (3 : Int).toNat [V.ref k5]).flatten))) k9 (.tup [.str "misfit", .str "space"])) k10 (.lst [.ref k9])) k11 (.lst (List.replicate (3 : Int).toNat [V.ref k9]).flatten)) k12 (.lst (((List.replicate (2 : Int).toNat [V.ref k1, V.ref k2]).flatten ++ (List.replicate (3 : Int).toNat [V.ref k5]).flatten) ++ (List.replicate (3 : Int).toNat [V.ref k9]).flatten))) k12 = some (.lst [.ref k1, .ref k2, .ref k1, .ref k2, .ref k5, .ref k5, .ref k5, .ref k9, .ref k9, .ref k9]) := upd_same
  have s12 := (u1.trans (u2.trans (u3.trans (u4.trans (u5.trans (u6.trans (u7.trans (u8.trans (u9.trans (u10.trans (u11.trans u12)))))))))))
  clear u12 u11 u10 u9 u8 u7 u6 u5 u4 u3 u2 u1
  generalize (upd (upd (upd (upd (upd (upd (upd (upd (upd (upd (upd (upd H11 k1 (.tup [.str "clock", .str "clock"])) k2 (.tup [.str "row", .str "row"])) k3 (.lst [.ref k1, .ref k2])) k4 (.lst (List.replicate (2 : Int).toNat [V.ref k1, V.ref k2]).flatten)) k5 (.tup [.str "space", .str "space"])) k6 (.lst [.ref k5])) k7 (.lst (List.replicate (3 : Int).toNat [V.ref k5]).flatten)) k8 (.lst ((List.replicate (2 : Int).toNat [V.ref k1, V.ref k2]).flatten ++ (List.replicate (3 : Int).toNat [V.ref k5]).flatten))) k9 (.tup [.str "misfit", .str "space"])) k10 (.lst [.ref k9])) k11 (.lst (List.replicate (3 : Int).toNat [V.ref k9]).flatten)) k12 (.lst (((List.replicate (2 : Int).toNat [V.ref k1, V.ref k2]).flatten ++ (List.replicate (3 : Int).toNat [V.ref k5]).flatten) ++ (List.replicate (3 : Int).toNat [V.ref k9]).flatten))) = H12 at s12 b1 b2 b5 b9 b12 ⊢
  have p1 : Dp K H12 (.ref k1) (dSS "clock" "clock") := .tup (.of b1) (.cons (.str _) (.cons (.str _) .nil))
  have p2 : Dp K H12 (.ref k2) (dSS "row" "row") := .tup (.of b2) (.cons (.str _) (.cons (.str _) .nil))
  have p5 : Dp K H12 (.ref k5) (dSS "space" "space") := .tup (.of b5) (.cons (.str _) (.cons (.str _) .nil))
  have p9 : Dp K H12 (.ref k9) (dSS "misfit" "space") := .tup (.of b9) (.cons (.str _) (.cons (.str _) .nil))
  refine ⟨_, _, .lst (.of (s12 _ _ g5)) (dpa_same s12 dl), .lst (.of b12) (.cons p1 (.cons p2 (.cons p1 (.cons p2 (.cons p5 (.cons p5 (.cons p5 (.cons p9 (.cons p9 (.cons p9 .nil)))))))))), by decide +kernel, by decide +kernel, ?_⟩
  refine ⟨_, rfl, iteFb (by decide +kernel) ?_⟩
  exact q _ _ _ _ _ _ (hb11.same s12) (T11.ext s12)
end K61

set_option Elab.async false
set_option linter.all false
set_option maxRecDepth 100000
set_option maxHeartbeats 8000000
/-! The walks: the law. -/
namespace K61
open PySem PySem.Spec PyProof.Rows L2
abbrev s_law : Stmt := top 77
abbrev N_law : List Str := ["_law_script", "_law_chessboard_here", "_law_turn", "_law_clock", "_law_many", "_law_one", "_law_other", "_law_own", "_law_told", "_law_due", "_law_none", "_law_some", "_law_bad", "_law_heard_here", "_law_odd", "_law_size", "_law_wide", "_law_strange", "_law_gap", "_law_white", "_law_black"]
theorem sc_law : FnScope N_law ["_law_script"] (defScope s_law) := ⟨rfl, rfl, rfl, by decide +kernel, rfl, by decide +kernel, by decide +kernel⟩
/-- _law_heard as the law has it -/
structure HeardF (K : PySem.W.Frag) (mg : Str → Option Value) : Prop where
  ex : ∃ (f : Addr) (fd : FuncData), mg "_law_heard" = some (.ref f) ∧ PySem.W.keepIn K (.ref f) = true ∧ FnP K "_law_heard" s_Lheard f fd ∧ L2.Binds K fd ["_law_ask"] []
section
variable {X : Cx}
theorem e_heard0 {Er : Errs} {c P : Addr} {k : Nat} {params : Arguments} {body : Expr} {scope : Scope} {t : XK → TE} {p lpos pos : Pos} (EF : ErrF X.K X.mg Er) (B : Bi X.mg) (HF : HeardF X.K X.mg) (TB : LamX.TabB X.base X.mg c P) (hcode : X.env.code = .ref c) (hr : Room (k + 2) X.A)
    (hbody : ∀ (A : Around) (outer : List Env) (s : Shared) (H : Hp) (E : XK) (f c' : Addr), Room k (A.deeper (LamX.lamEnv X scope s.heap.objs.size f c')) → PE (LamX.lamCx X A outer s H E scope f c') body (t E))
    (hg : Gl X "_law_heard" := by rfl) (L : LamX.LamS X.env.scope scope := by exact LamX.lamS_by (by decide +kernel)) (hdef : defaultsOf params X.env = ([], []) := by rfl)
    (hbind : ∀ (q : Str) (cl : List (Str × Addr)) (pm cv ctv : Value), bindArgs (PySem.W.kla_fn "<lambda>" q params body scope cl pm cv ctv) ⟨[], []⟩ = pure [] := by exact fun _ _ _ _ _ => rfl) :
    PE X (.Call (.Name "_law_heard" p) [.Lambda params body scope lpos] [] pos) (LamX.tLam [(P, X.env.qual ++ "<lambda>")] (TTheard X.K Er) t) := by
  obtain ⟨f, fd, h1, h2, h3, h4⟩ := HF.ex
  obtain ⟨oc, od, dV, kV, doc, pm, an, cdv, ct, osl, rfl, lk, hcd, _, _⟩ := h3.ex
  exact LamX.pe_lamcall hg h1 h2 lk hcd h4 sc_Lheard rfl (.inl rfl) (heard_gives Er EF B) TB hcode List.mem_cons_self (fun q hq _ => by
    have e : q = (P, X.env.qual ++ "<lambda>") := by simpa using hq
    rw [e]) hr L hdef hbind hbody
theorem e_heardD {Er : Errs} {c P : Addr} {k : Nat} {params : Arguments} {body : Expr} {scope : Scope} {t : XK → TE} {p lpos pos dpos : Pos} {z : Int} {i : Nat} {pa : Str} (EF : ErrF X.K X.mg Er) (B : Bi X.mg) (HF : HeardF X.K X.mg) (TB : LamX.TabB X.base X.mg c P) (hcode : X.env.code = .ref c) (hr : Room (k + 2) X.A)
    (hbody : ∀ (A : Around) (outer : List Env) (s : Shared) (H : Hp) (E : XK) (f c' : Addr), Room k (A.deeper (LamX.lamEnv X scope s.heap.objs.size f c')) → PE (LamX.lamCx X A outer s H E scope f c') body (t E))
    (hdef : defaultsOf params X.env = ([eval (.Constant (.int z) i dpos) X.env], []) := by rfl) (hpn : params.args.map (·.arg) = [pa] := by rfl) (hg : Gl X "_law_heard" := by rfl) (L : LamP X.env.scope scope pa := by exact lamP_by (by decide +kernel)) (hpa : pa ∉ X.N := by decide +kernel) (hkw : params.kwonlyargs = [] := by rfl)
    (hbind : ∀ (D : Addr) (q : Str) (cl : List (Str × Addr)) (pm cv ctv pv : Value), ∃ kk, bindArgs (lamFn D "<lambda>" q params body scope cl pm cv ctv) ⟨[], []⟩ = seqItems? (.ref D) >>= kk ∧ kk (some #[pv]) = pure [(pa, pv)] := by exact fun _ _ _ _ _ _ _ => ⟨_, rfl, rfl⟩) :
    PE X (.Call (.Name "_law_heard" p) [.Lambda params body scope lpos] [] pos) (LamX.tLam [(P, X.env.qual ++ "<lambda>")] (TTheard X.K Er) t) := by
  obtain ⟨f, fd, h1, h2, h3, h4⟩ := HF.ex
  obtain ⟨oc, od, dV, kV, doc, pm, an, cdv, ct, osl, rfl, lk, hcd, _, _⟩ := h3.ex
  exact pe_lamcallD hg h1 h2 lk hcd h4 sc_Lheard rfl (.inl rfl) (heard_gives Er EF B) TB hcode List.mem_cons_self (fun q hq _ => by
    have e : q = (P, X.env.qual ++ "<lambda>") := by simpa using hq
    rw [e]) hr L hpa hdef hkw hbind hbody
end
theorem clock_pick {j : Nat} {x : V} (h : [V.int 5, V.int 3, V.int 7, V.int 11, V.int 31][j]? = some x) : ∃ c, x = .int c ∧ Clock c := by
  match j, h with
  | 0, h => cases h; exact ⟨5, rfl, by unfold Clock; omega⟩
  | 1, h => cases h; exact ⟨3, rfl, by unfold Clock; omega⟩
  | 2, h => cases h; exact ⟨7, rfl, by unfold Clock; omega⟩
  | 3, h => cases h; exact ⟨11, rfl, by unfold Clock; omega⟩
  | 4, h => cases h; exact ⟨31, rfl, by unfold Clock; omega⟩
theorem many_pick {j : Nat} {x : V} (h : [V.int 2, V.int 1, V.int 3, V.int 4, V.int 7][j]? = some x) : ∃ m : Nat, x = .int (m : Int) ∧ (m = 1 ∨ m = 2 ∨ m = 3 ∨ m = 4 ∨ m = 7) := by
  match j, h with
  | 0, h => cases h; exact ⟨2, rfl, by omega⟩
  | 1, h => cases h; exact ⟨1, rfl, by omega⟩
  | 2, h => cases h; exact ⟨3, rfl, by omega⟩
  | 3, h => cases h; exact ⟨4, rfl, by omega⟩
  | 4, h => cases h; exact ⟨7, rfl, by omega⟩
theorem sized_ok {c : Int} {m : Nat} {row : List Int} (hm : 1 ≤ m ∧ m ≤ 7) (ok : RowOk c (2 * (m + 1)) row) : sizedB c 4 16 (some (row.map V.int)) = true := by
  unfold sizedB
  dsimp only
  rw [ints_within ok.2, List.length_map, ok.1, Bool.and_true]
  exact decide_eq_true (by omega)
theorem rowf_go {K : PySem.W.Frag} {H : Hp} {Ck Cr : Addr} {f : Int → List Int → List Int} {c : Int} {m : Nat} {y : V} {row : List Int} {Q : VK} {E : XK} (hc : Clock c) (hm : 1 ≤ m ∧ m ≤ 7) (hy : SeqK K H y (some (row.map V.int))) (ok : RowOk c (2 * (m + 1)) row)
    (q : ∀ H' v, Same H H' → Dp K H' v (dT (f c row)) → Q v H') : sp_rowf K Ck Cr f [.int c, y] H Q E := by
  refine ⟨_, _, _, rfl, tyI_int K H c, hy, ints_ty (by rw [ok.1]; omega), fun z => ?_, fun _ => ⟨c, rfl, hc, fun _ ns e H' v s h => ?_, fun z => ?_⟩⟩
  · rw [clockB_ok hc] at z
    cases z
  · have e2 : row.map V.int = ns.map V.int := Option.some.inj e
    have e3 : row = ns := List.map_inj_right (fun a b h => V.int.inj h) |>.mp e2
    subst e3
    exact q H' v s h
  · rw [sized_ok hm ok] at z
    cases z
theorem none_pick {K : PySem.W.Frag} {j : Nat} {x : V} (h : [V.int 4, V.int 9, V.non, V.bl true, V.str "5", V.int 37][j]? = some x) : clockB x = false ∧ ∀ H, TyI K H x := by
  match j, h with
  | 0, h => cases h; exact ⟨by decide, fun H => tyI_int K H 4⟩
  | 1, h => cases h; exact ⟨by decide, fun H => tyI_int K H 9⟩
  | 2, h => cases h; exact ⟨rfl, fun H => tyI_non K H⟩
  | 3, h => cases h; exact ⟨rfl, fun H => tyI_bl K H true⟩
  | 4, h => cases h; exact ⟨rfl, fun H => tyI_str K H _⟩
  | 5, h => cases h; exact ⟨by decide, fun H => tyI_int K H 37⟩
def sp_law (K : PySem.W.Frag) (P : Addr) : Sp := fun vs H Q _ => ∃ (a : Addr) (ns : List Int), vs = [.ref a] ∧ SqL K H a (ns.map V.int) ∧ LamX.Tabs [(P, "law.<locals>.<lambda>")] H ∧ ∀ H', Q (.bl true) H'
section
variable {P : Program} {w : World} {K : PySem.W.Frag} {mg : Str → Option Value} {base : Heap} {f : Addr} {fd : FuncData} {C cL PL : Addr} {Er : Errs}
theorem ok_law (Bu : Bi mg) (S : SpC K mg C) (I : SpI K C) (SN : SpN K C) (m_Space : SpM P w K mg base C) (EF : ErrF K mg Er) (HF : HeardF K mg) (TB : LamX.TabB base mg cL PL) (hcdL : fd.code = .ref cL)
    (c__law_chessboard : Cal P w K mg base CX0 1 "_law_chessboard" ["_law_script"] [] (sp_chessboard K))
    (c__law_pick : Cal P w K mg base CX0 2 "_law_pick" ["_law_chessboard_here", "_law_some"] [] (sp_pick K))
    (c__law_square : Cal P w K mg base CX0 1 "_law_square" ["_law_chessboard_here", "_law_many"] [] (sp_square K))
    (c__law_whites : Cal P w K mg base CX0 1 "_law_whites" ["_law_clock", "_law_row"] [] (sp_Lrowf K whitesOf))
    (c__law_blacks : Cal P w K mg base CX0 1 "_law_blacks" ["_law_clock", "_law_row"] [] (sp_Lrowf K blacksOf))
    (c_whites : Cal P w K mg base (L2.CX P w) 6 "whites" ["clock", "row"] [] (sp_rowf K Er.BadClock Er.BadRow whitesOf))
    (k_whites : CalK P w K mg base (L2.CX P w) 6 "whites" ["clock", "row"] ["row", "clock"] (fun _ zs => zs.reverse) (sp_rowf K Er.BadClock Er.BadRow whitesOf))
    (c_blacks : Cal P w K mg base (L2.CX P w) 6 "blacks" ["clock", "row"] [] (sp_rowf K Er.BadClock Er.BadRow blacksOf))
    (k_blacks : CalK P w K mg base (L2.CX P w) 6 "blacks" ["clock", "row"] ["row", "clock"] (fun _ zs => zs.reverse) (sp_rowf K Er.BadClock Er.BadRow blacksOf))
    (c_swing : Cal P w K mg base CX0 6 "swing" ["clock", "one", "other"] [] (sp_swing K))
    (c__law_spaces_right : CalG P w K mg base CX0 12 "_law_spaces_right" ["_law_chessboard_here", "_law_clock", "_law_many"] (sp_spaces_right K))
    (c_fair_of : Cal P w K mg base (L2.CX P w) 11 "fair_of" ["space"] [] (sp_fair_of K C Er.BadSpace Er.Misfit))
    (c_white_space : Cal P w K mg base (L2.CX P w) 7 "white_space" ["space"] [] (sp_half K C Er.BadSpace Er.Misfit whitesOf))
    (c_black_space : Cal P w K mg base (L2.CX P w) 7 "black_space" ["space"] [] (sp_half K C Er.BadSpace Er.Misfit blacksOf))
    (F : FnP K "law" s_law f fd) : FnG P w K mg base CX0 15 f fd ["_law_script"] (sp_law K PL) := by
  have nd := sc_law.nd
  have B := Bu
  refine okG F sc_law (fun vs H Q E h => by obtain ⟨a, ns, rfl, _⟩ := h; rfl) (fun cdv A outer s H vs Q E hcd hgd hr h => ?_)
  obtain ⟨_, _, _, _, hcd⟩ := hcd
  have hcode : cdv = .ref cL := hcd.symm.trans hcdL
  have hr__law_chessboard : Room 1 _ := hr.mono (by decide)
  have hr__law_pick : Room 2 _ := hr.mono (by decide)
  have hr__law_square : Room 1 _ := hr.mono (by decide)
  have hr__law_whites : Room 1 _ := hr.mono (by decide)
  have hr__law_blacks : Room 1 _ := hr.mono (by decide)
  have hr_whites : Room 6 _ := hr.mono (by decide)
  have hr_blacks : Room 6 _ := hr.mono (by decide)
  have hr_swing : Room 6 _ := hr.mono (by decide)
  have hr__law_spaces_right : Room 12 _ := hr.mono (by decide)
  have hr_Space : Room 6 _ := hr.mono (by decide)
  have hr__law_heard : Room (11 + 2) _ := hr.mono (by decide)
  refine ⟨_, (pss_cons (ps_asg (e_call c__law_chessboard hr__law_chessboard pass0 (pa_cons (pv 0) pa_nil)) (pgn 1 nd))
      (pss_cons (ps_for PassesOwn.never rfl (pi_range1 rfl B.range (pa_cons pe_int pa_nil)) (pgn 2 nd)
      (pss_cons (ps_asg (pe_tup (pa_cons (e_call c__law_pick hr__law_pick pass0 (pa_cons (pv 1) (pa_cons (pe_lst (pa_cons pe_int (pa_cons pe_int (pa_cons pe_int (pa_cons pe_int (pa_cons pe_int pa_nil)))))) pa_nil))) (pa_cons (e_call c__law_pick hr__law_pick pass0 (pa_cons (pv 1) (pa_cons (pe_lst (pa_cons pe_int (pa_cons pe_int (pa_cons pe_int (pa_cons pe_int (pa_cons pe_int pa_nil)))))) pa_nil))) pa_nil))) (pg_tup rfl (pgs_cons (pgn 3 nd) (pgs_cons (pgn 4 nd) pgs_nil))))
      (pss_cons (ps_par (i := 5) (j := 6) rfl nd rfl rfl (by decide) rfl rfl (pa_cons (pe_lc (own := [("_law_gap", 18)]) rfl nd (pi_range1 rfl B.range (pa_cons (pe_op op_add (pe_op op_mul pe_int (pv 4)) pe_int) pa_nil)) (blkOk_by (N := N_law) (sc := (defScope s_law)) (by decide +kernel)) (fun _ _ _ _ _ => by exact (pgn 18 nd)) (fun _ _ _ _ _ => by exact pts_nil) (fun _ _ _ _ _ => by exact (e_call c__law_square hr__law_square pass0 (pa_cons (pv 1) (pa_cons (pv 3) pa_nil))))) (pa_cons (pe_lc (own := [("_law_gap", 18)]) rfl nd (pi_range1 rfl B.range (pa_cons (pe_op op_add (pe_op op_mul pe_int (pv 4)) pe_int) pa_nil)) (blkOk_by (N := N_law) (sc := (defScope s_law)) (by decide +kernel)) (fun _ _ _ _ _ => by exact (pgn 18 nd)) (fun _ _ _ _ _ => by exact pts_nil) (fun _ _ _ _ _ => by exact (e_call c__law_square hr__law_square pass0 (pa_cons (pv 1) (pa_cons (pv 3) pa_nil))))) pa_nil)) rfl)
      (pss_cons (ps_asg (pe_lst (pa_cons (e_call c__law_whites hr__law_whites pass0 (pa_cons (pv 3) (pa_cons (pv 5) pa_nil))) (pa_cons (e_call c__law_blacks hr__law_blacks pass0 (pa_cons (pv 3) (pa_cons (pv 5) pa_nil))) (pa_cons (e_call c__law_whites hr__law_whites pass0 (pa_cons (pv 3) (pa_cons (pv 6) pa_nil))) (pa_cons (e_call c__law_blacks hr__law_blacks pass0 (pa_cons (pv 3) (pa_cons (pv 6) pa_nil))) pa_nil))))) (pgn 7 nd))
      (pss_cons (ps_asg (pe_lst (pa_cons (e_call c_whites hr_whites passL (pa_cons (pv 3) (pa_cons (pv 5) pa_nil))) (pa_cons (e_call c_blacks hr_blacks passL (pa_cons (pv 3) (pa_cons (pv 5) pa_nil))) (pa_cons (e_callKw k_whites hr_whites passL (pk_cons (pe_callTy (kTup K) rfl B.tuple bt_tuple (pa_cons (pv 6) pa_nil)) (pk_cons (pv 3) pk_nil))) (pa_cons (e_callKw k_blacks hr_blacks passL (pk_cons (pe_callTy (kTup K) rfl B.tuple bt_tuple (pa_cons (pv 6) pa_nil)) (pk_cons (pv 3) pk_nil))) pa_nil))))) (pgn 8 nd))
      (pss_cons (ps_if (pt_cmpR op_ne (pe_callB (call_rep hgd hr.units) rfl B.repr bt_repr (pa_cons (pv 8) pa_nil)) (pe_callB (call_rep hgd hr.units) rfl B.repr bt_repr (pa_cons (pv 7) pa_nil)) (nomark _)) (pss_one (ps_ret pe_bl)) pss_nil)
      (pss_cons (ps_asg (pe_op op_sub (pe_callB (kSum K rfl) rfl B.sum bt_sum (pa_cons (pe_lc (g := gTup K 2 (gCons (gName 19) (gCons (gName 20) gNil))) (own := [("_law_white", 19), ("_law_black", 20)]) rfl nd (RZ.pi_zipA rfl B.zip (pa_cons (pe_ix (kIxL K) (pv 7) pe_int (fun _ _ => rfl)) (pa_cons (pe_ix (kIxL K) (pv 7) pe_int (fun _ _ => rfl)) pa_nil))) (blkOk_by (N := N_law) (sc := (defScope s_law)) (by decide +kernel)) (fun _ _ _ _ _ => by exact (pg_tup rfl (pgs_cons (pgn 19 nd) (pgs_cons (pgn 20 nd) pgs_nil)))) (fun _ _ _ _ _ => by exact pts_nil) (fun _ _ _ _ _ => by exact (pe_op op_mul (pv 19) (pv 20)))) pa_nil)) (pe_callB (kSum K rfl) rfl B.sum bt_sum (pa_cons (pe_lc (g := gTup K 2 (gCons (gName 19) (gCons (gName 20) gNil))) (own := [("_law_white", 19), ("_law_black", 20)]) rfl nd (RZ.pi_zipA rfl B.zip (pa_cons (pe_ix (kIxL K) (pv 7) pe_int (fun _ _ => rfl)) (pa_cons (pe_ix (kIxL K) (pv 7) pe_int (fun _ _ => rfl)) pa_nil))) (blkOk_by (N := N_law) (sc := (defScope s_law)) (by decide +kernel)) (fun _ _ _ _ _ => by exact (pg_tup rfl (pgs_cons (pgn 19 nd) (pgs_cons (pgn 20 nd) pgs_nil)))) (fun _ _ _ _ _ => by exact pts_nil) (fun _ _ _ _ _ => by exact (pe_op op_mul (pv 19) (pv 20)))) pa_nil))) (pgn 9 nd))
      (pss_cons (ps_if (PW.pt (pw_or (pt_cmpR op_ne (e_call c_swing hr_swing pass0 (pa_cons (pv 3) (pa_cons (pv 5) (pa_cons (pv 6) pa_nil)))) (pe_op op_mod (pe_callTy call_int1 rfl B.int bt_int (pa_cons (pv 9) pa_nil)) (pv 3)) (nomark _)) (pw_or1 (pt_not (pt_val (e_callG c__law_spaces_right hgd hr__law_spaces_right pass0 (pa_cons (pv 1) (pa_cons (pv 3) (pa_cons (pv 4) pa_nil))))))))) (pss_one (ps_ret pe_bl)) pss_nil)
      (pss_cons (ps_asg (pe_tup (pa_cons (e_call c__law_pick hr__law_pick pass0 (pa_cons (pv 1) (pa_cons (pe_lst (pa_cons pe_int (pa_cons pe_int (pa_cons pe_non (pa_cons pe_bl (pa_cons pe_str (pa_cons pe_int pa_nil))))))) pa_nil))) (pa_cons (pe_lst (pa_cons pe_non (pa_cons (pe_lst pa_nil) (pa_cons (pe_lst (pa_cons pe_int (pa_cons pe_int pa_nil))) (pa_cons (pe_op op_rep (pe_lst (pa_cons pe_int pa_nil)) pe_int) (pa_cons (pe_op op_rep (pe_lst (pa_cons pe_int pa_nil)) pe_int) (pa_cons (pe_op op_rep (pe_lst (pa_cons (pv 3) pa_nil)) pe_int) pa_nil))))))) pa_nil))) (pg_tup rfl (pgs_cons (pgn 10 nd) (pgs_cons (pgn 11 nd) pgs_nil))))
      (pss_cons (ps_asg (e_call c__law_pick hr__law_pick pass0 (pa_cons (pv 1) (pa_cons (pe_op op_cat (pv 11) (pe_lst (pa_cons (pe_lst (pa_cons pe_int (pa_cons pe_int (pa_cons pe_int (pa_cons pe_bl pa_nil))))) (pa_cons (pe_op op_rep (pe_lst (pa_cons (pe_un un_neg pe_int) pa_nil)) pe_int) (pa_cons pe_str (pa_cons (pe_op op_rep (pe_lst (pa_cons pe_int pa_nil)) pe_int) (pa_cons pe_dnewK (pa_cons pe_int pa_nil)))))))) pa_nil))) (pgn 12 nd))
      (pss_cons (ps_asg (pe_lst (pa_cons (e_heard0 EF B HF TB hcode hr__law_heard (fun _ _ _ _ _ _ _ hrB => (e_call c_whites (hrB.mono (by decide)) (passes_call (takes_of rfl rfl rfl rfl) (fun _ _ _ _ h => h)) (pa_cons (pv 10) (pa_cons (pv 12) pa_nil)))) (L := LamX.lamS_by (sc := defScope s_law) (by decide +kernel))) (pa_cons (e_heardD EF B HF TB hcode hr__law_heard (fun _ _ _ _ _ _ _ hrB => (e_call c_whites (hrB.mono (by decide)) (passes_call (takes_of rfl rfl rfl rfl) (fun _ _ _ _ h => h)) (pa_cons (pv 3) (pa_cons (pv 12) pa_nil)))) (pa := "_law_a1") (L := lamP_by (sc := defScope s_law) (by decide +kernel)) (hpa := (by decide +kernel : ("_law_a1" : Str) ∉ N_law))) (pa_cons (e_heardD EF B HF TB hcode hr__law_heard (fun _ _ _ _ _ _ _ hrB => (e_call c_blacks (hrB.mono (by decide)) (passes_call (takes_of rfl rfl rfl rfl) (fun _ _ _ _ h => h)) (pa_cons (pv 10) (pa_cons (pv 12) pa_nil)))) (pa := "_law_a2") (L := lamP_by (sc := defScope s_law) (by decide +kernel)) (hpa := (by decide +kernel : ("_law_a2" : Str) ∉ N_law))) (pa_cons (e_heardD EF B HF TB hcode hr__law_heard (fun _ _ _ _ _ _ _ hrB => (e_call c_blacks (hrB.mono (by decide)) (passes_call (takes_of rfl rfl rfl rfl) (fun _ _ _ _ h => h)) (pa_cons (pv 3) (pa_cons (pv 12) pa_nil)))) (pa := "_law_a3") (L := lamP_by (sc := defScope s_law) (by decide +kernel)) (hpa := (by decide +kernel : ("_law_a3" : Str) ∉ N_law))) pa_nil))))) (pgn 13 nd))
      (pss_cons (ps_asg (pe_tup (pa_cons (e_call c__law_pick hr__law_pick pass0 (pa_cons (pv 1) (pa_cons (pe_lst (pa_cons pe_non (pa_cons pe_int (pa_cons (pv 5) (pa_cons (pe_lst (pa_cons (pv 5) pa_nil)) (pa_cons pe_str (pa_cons pe_bl pa_nil))))))) pa_nil))) (pa_cons (e_call c__law_pick hr__law_pick pass0 (pa_cons (pv 1) (pa_cons (pe_lst (pa_cons pe_int (pa_cons pe_int (pa_cons pe_int (pa_cons pe_int (pa_cons pe_int (pa_cons pe_int (pa_cons pe_int (pa_cons pe_int pa_nil))))))))) pa_nil))) pa_nil))) (pg_tup rfl (pgs_cons (pgn 14 nd) (pgs_cons (pgn 15 nd) pgs_nil))))
      (pss_cons (ps_asg (pe_op op_cat (pv 13) (pe_lst (pa_cons (e_heard0 EF B HF TB hcode hr__law_heard (fun _ _ _ _ _ _ _ hrB => (e_call c_fair_of (hrB.mono (by decide)) (passes_call (takes_of rfl rfl rfl rfl) (fun _ _ _ _ h => h)) (pa_cons (pv 14) pa_nil))) (L := LamX.lamS_by (sc := defScope s_law) (by decide +kernel))) (pa_cons (e_heardD EF B HF TB hcode hr__law_heard (fun _ _ _ _ _ _ _ hrB => (e_call c_white_space (hrB.mono (by decide)) (passes_call (takes_of rfl rfl rfl rfl) (fun _ _ _ _ h => h)) (pa_cons (pv 14) pa_nil))) (pa := "_law_a1") (L := lamP_by (sc := defScope s_law) (by decide +kernel)) (hpa := (by decide +kernel : ("_law_a1" : Str) ∉ N_law))) (pa_cons (e_heardD EF B HF TB hcode hr__law_heard (fun _ _ _ _ _ _ _ hrB => (e_call c_black_space (hrB.mono (by decide)) (passes_call (takes_of rfl rfl rfl rfl) (fun _ _ _ _ h => h)) (pa_cons (pv 14) pa_nil))) (pa := "_law_a2") (L := lamP_by (sc := defScope s_law) (by decide +kernel)) (hpa := (by decide +kernel : ("_law_a2" : Str) ∉ N_law))) pa_nil))))) (pgn 13 nd))
      (pss_cons (ps_asg (pe_tup (pa_cons (e_space m_Space hr_Space (pa_cons (pv 3) (pa_cons (e_call c__law_pick hr__law_pick pass0 (pa_cons (pv 1) (pa_cons (pe_lst (pa_cons pe_int (pa_cons pe_int (pa_cons pe_int (pa_cons pe_int pa_nil))))) pa_nil))) (pa_cons (pe_lst pa_nil) pa_nil)))) (pa_cons (e_space m_Space hr_Space (pa_cons (pv 3) (pa_cons (pv 15) (pa_cons (pe_lst pa_nil) pa_nil)))) pa_nil))) (pg_tup rfl (pgs_cons (pgn 16 nd) (pgs_cons (pgn 17 nd) pgs_nil))))
      (pss_cons (ps_asg (pe_op op_cat (pv 13) (pe_lst (pa_cons (e_heard0 EF B HF TB hcode hr__law_heard (fun _ _ _ _ _ _ _ hrB => (e_call c_fair_of (hrB.mono (by decide)) (passes_call (takes_of rfl rfl rfl rfl) (fun _ _ _ _ h => h)) (pa_cons (pv 16) pa_nil))) (L := LamX.lamS_by (sc := defScope s_law) (by decide +kernel))) (pa_cons (e_heardD EF B HF TB hcode hr__law_heard (fun _ _ _ _ _ _ _ hrB => (e_call c_white_space (hrB.mono (by decide)) (passes_call (takes_of rfl rfl rfl rfl) (fun _ _ _ _ h => h)) (pa_cons (pv 17) pa_nil))) (pa := "_law_a1") (L := lamP_by (sc := defScope s_law) (by decide +kernel)) (hpa := (by decide +kernel : ("_law_a1" : Str) ∉ N_law))) (pa_cons (e_heardD EF B HF TB hcode hr__law_heard (fun _ _ _ _ _ _ _ hrB => (e_call c_black_space (hrB.mono (by decide)) (passes_call (takes_of rfl rfl rfl rfl) (fun _ _ _ _ h => h)) (pa_cons (pv 17) pa_nil))) (pa := "_law_a2") (L := lamP_by (sc := defScope s_law) (by decide +kernel)) (hpa := (by decide +kernel : ("_law_a2" : Str) ∉ N_law))) pa_nil))))) (pgn 13 nd))
      (pss_one (ps_if (pt_cmpR (op_neD hr.units) (pv 13) (pe_op op_cat (pe_op op_cat (pe_op op_rep (pe_lst (pa_cons (pe_tup (pa_cons pe_str (pa_cons pe_str pa_nil))) (pa_cons (pe_tup (pa_cons pe_str (pa_cons pe_str pa_nil))) pa_nil))) pe_int) (pe_op op_rep (pe_lst (pa_cons (pe_tup (pa_cons pe_str (pa_cons pe_str pa_nil))) pa_nil)) pe_int)) (pe_op op_rep (pe_lst (pa_cons (pe_tup (pa_cons pe_str (pa_cons pe_str pa_nil))) pa_nil)) pe_int)) (nomark _)) (pss_one (ps_ret pe_bl)) pss_nil)))))))))))))))))
      (pss_one (ps_ret pe_bl)))), ?_⟩
  clear B
  obtain ⟨a, ns, rfl, ha, hT, q⟩ := h
  refine ⟨_, rfl, a, ns, rfl, ha, fun H1 B A s1 _ hb => ?_⟩
  have hT1 := hT.ext s1
  dsimp only [gName]
  refine ⟨3, rfl, by omega, by omega, ?_⟩
  refine for_it (walk_r0 (n := 3)) (fun i σ H' => Board K H' B A (1000000 - 400 * i) ∧ LamX.Tabs [(PL, "law.<locals>.<lambda>")] H' ∧ ∃ x2 x3 x4 x5 x6 x7 x8 x9 x10 x11 x12 x13 x14 x15 x16 x17 x18 x19 x20, σ = [some (.ref a), some (.ref B), x2, x3, x4, x5, x6, x7, x8, x9, x10, x11, x12, x13, x14, x15, x16, x17, x18, x19, x20])
    ⟨hb, hT1, _, _, _, _, _, _, _, _, _, _, _, _, _, _, _, _, _, _, _, rfl⟩ (fun _ _ _ _ _ => trivial) ?_ ?_
  · rintro i u σ Ha Hb hi ⟨hb2, hT2, x2, x3, x4, x5, x6, x7, x8, x9, x10, x11, x12, x13, x14, x15, x16, x17, x18, x19, x20, rfl⟩ ⟨rfl, rfl⟩
    have hb3 : Board K Hb B A ((1000000 - 400 * (i + 1)) + 398 + 1 + 1) := hb2.le (by omega)
    generalize 1000000 - 400 * (i + 1) = bud at hb3 ⊢
    -- clock, many
    refine ⟨_, rfl, (by show 5 ≤ sizeLine; decide), fun S1 hS1 => ⟨B, A, S1, bud + 398 + 1, _, rfl, hb3.same (same_upd hS1), new_seq hb3 hS1, (by show 0 < 5; decide), (by show 5 < 1000; decide), fun H3 j1 xc s3 hb4 hj1 => ?_⟩⟩
    obtain ⟨c, rfl, hc⟩ := clock_pick hj1
    have s23 : SameB B Hb H3 := (SameB.of (same_upd hS1)).trans s3
    refine ⟨_, rfl, (by show 5 ≤ sizeLine; decide), fun S2 hS2 => ⟨B, A, S2, bud + 398, _, rfl, hb4.same (same_upd hS2), new_seq hb4 hS2, (by show 0 < 5; decide), (by show 5 < 1000; decide), fun H4 j2 xm s4 hb5 hj2 => ?_⟩⟩
    obtain ⟨m, rfl, hm⟩ := many_pick hj2
    have s24 : SameB B Hb H4 := s23.trans ((SameB.of (same_upd hS2)).trans s4)
    refine ⟨(by show 2 ≤ sizeLine; decide), fun T0 hT0 => ⟨T0, _, rfl, .of upd_same, rfl, _, _, rfl, _, _, rfl, rfl, ?_⟩⟩
    have t5 : Same H4 (upd H4 T0 (.tup [.int c, .int (m : Int)])) := same_upd hT0
    generalize upd H4 T0 (.tup [.int c, .int (m : Int)]) = H5 at t5 ⊢
    have s25 : SameB B Hb H5 := s24.trans (SameB.of t5)
    have hb6 : Board K H5 B A (bud + 398) := hb5.same t5
    have c0 := hc.pos
    have c1 := hc.le
    have m7 : 1 ≤ m ∧ m ≤ 7 := by omega
    -- one, other
    show tSeq _ _ _ _ _
    have big : (1000 : Nat) ≤ sizeLine := by decide
    have tn : (2 * (m : Int) + 2).toNat = 2 * (m + 1) := by omega
    refine ⟨_, rfl, 2, (m : Int), rfl, rfl, .inl ⟨by decide, by decide⟩, _, _, rfl, rfl, 2 * (m : Int) + 2, rfl, by omega, by omega, fun D1 hD1 => ?_⟩
    rw [tn]
    refine lcB (K := K) (k := 1) (m := bud + 300) (walk_r0 (n := 2 * (m + 1))) (fun v => 0 ≤ v ∧ v < c) hD1 (by omega) (hb6.le (by omega)) (fun _ _ => trivial) (fun j x Hc Hd N hj s6 hb7 nD y k => ?_) (fun H6 one s6 hb7 eD1 lone hone => ?_)
    · obtain ⟨rfl, rfl⟩ := y
      exact ⟨rfl, _, rfl, _, rfl, B, A, _, c, rfl, hb7, by omega, by omega, fun H' v s hb' v0 v1 => k v H' s hb' ⟨v0, v1⟩⟩
    have nD1 := hb6.ne hD1
    refine ⟨_, rfl, 2, (m : Int), rfl, rfl, .inl ⟨by decide, by decide⟩, _, _, rfl, rfl, 2 * (m : Int) + 2, rfl, by omega, by omega, fun D2 hD2 => ?_⟩
    rw [tn]
    refine lcB (K := K) (k := 1) (m := bud + 250) (walk_r0 (n := 2 * (m + 1))) (fun v => 0 ≤ v ∧ v < c) hD2 (by omega) (hb7.le (by omega)) (fun _ _ => trivial) (fun j x Hc Hd N hj s7 hb8 nD y k => ?_) (fun H7 other s7 hb8 eD2 lother hother => ⟨_, _, rfl, ?_⟩)
    · obtain ⟨rfl, rfl⟩ := y
      exact ⟨rfl, _, rfl, _, rfl, B, A, _, c, rfl, hb8, by omega, by omega, fun H' v s hb' v0 v1 => k v H' s hb' ⟨v0, v1⟩⟩
    have nD2 := hb7.ne hD2
    have ok1 : RowOk c (2 * (m + 1)) one := ⟨lone, hone⟩
    have ok2 : RowOk c (2 * (m + 1)) other := ⟨lother, hother⟩
    have e1 : H7 D1 = some (.lst (one.map V.int)) := sameB_get nD1 s7 eD1
    have s27 : SameB B Hb H7 := s25.trans (s6.trans s7)
    show tSeq _ _ _ _ _
    -- own = [whites(clock, one), blacks(clock, one), whites(clock, other), blacks(clock, other)]
    have fin : ∀ {H' : Hp}, Same H7 H' → SqL K H' D1 (one.map V.int) ∧ SqL K H' D2 (other.map V.int) := fun s => ⟨.of (s _ _ e1), .of (s _ _ eD2)⟩
    refine ⟨_, rfl, _, rfl, c, D1, one, rfl, (fin (Same.refl _)).1, hc, by omega, by omega, by omega, fun H8 w1 s8 hw1 => ?_⟩
    refine ⟨_, rfl, _, rfl, c, D1, one, rfl, (fin s8).1, hc, by omega, by omega, by omega, fun H9 w2 s9 hw2 => ?_⟩
    refine ⟨_, rfl, _, rfl, c, D2, other, rfl, (fin (s8.trans s9)).2, hc, by omega, by omega, by omega, fun H10 w3 s10 hw3 => ?_⟩
    refine ⟨_, rfl, _, rfl, c, D2, other, rfl, (fin ((s8.trans s9).trans s10)).2, hc, by omega, by omega, by omega, fun H11 w4 s11 hw4 => ⟨(by show 4 ≤ sizeLine; decide), fun pO hpO => ?_⟩⟩
    have t12 : Same H11 (upd H11 pO (.lst [w1, w2, w3, w4])) := same_upd hpO
    have eO : upd H11 pO (.lst [w1, w2, w3, w4]) pO = some (.lst [w1, w2, w3, w4]) := upd_same
    dsimp only [gName]
    generalize upd H11 pO (.lst [w1, w2, w3, w4]) = H12 at t12 eO ⊢
    have hw1' := dp_same (s9.trans (s10.trans (s11.trans t12))) hw1
    have hw2' := dp_same (s10.trans (s11.trans t12)) hw2
    have hw3' := dp_same (s11.trans t12) hw3
    have hw4' := dp_same t12 hw4
    have s7_12 : Same H7 H12 := (s8.trans s9).trans (s10.trans (s11.trans t12))
    -- told
    have f1 : ∀ {H' : Hp}, Same H12 H' → SeqK K H' (.ref D1) (some (one.map V.int)) ∧ SqL K H' D2 (other.map V.int) := fun s => ⟨.lst (.of ((s7_12.trans s) _ _ e1)), .of ((s7_12.trans s) _ _ eD2)⟩
    refine ⟨_, rfl, _, rfl, rowf_go hc m7 (f1 (Same.refl _)).1 ok1 fun H13 v1 s13 hv1 => ?_⟩
    refine ⟨_, rfl, _, rfl, rowf_go hc m7 (f1 s13).1 ok1 fun H14 v2 s14 hv2 => ?_⟩
    refine ⟨_, rfl, D2, _, rfl, .inl ⟨(f1 (s13.trans s14)).2, fun T3 hT3 => ⟨_, rfl, rfl, rowf_go hc m7 (.tup (.of upd_same)) ok2 fun H15 v3 s15 hv3 => ?_⟩⟩⟩
    have s15' := (same_upd hT3).trans s15
    refine ⟨_, rfl, D2, _, rfl, .inl ⟨(f1 ((s13.trans s14).trans s15')).2, fun T4 hT4 => ⟨_, rfl, rfl, rowf_go hc m7 (.tup (.of upd_same)) ok2 fun H16 v4 s16 hv4 => ⟨(by show 4 ≤ sizeLine; decide), fun pT hpT => ?_⟩⟩⟩⟩
    have s16' := (same_upd hT4).trans s16
    have t17 : Same H16 (upd H16 pT (.lst [v1, v2, v3, v4])) := same_upd hpT
    have eT : upd H16 pT (.lst [v1, v2, v3, v4]) pT = some (.lst [v1, v2, v3, v4]) := upd_same
    dsimp only [gName]
    generalize upd H16 pT (.lst [v1, v2, v3, v4]) = H17 at t17 eT ⊢
    have s12_17 : Same H12 H17 := ((s13.trans s14).trans s15').trans (s16'.trans t17)
    have dTold : Dp K H17 (.ref pT) (.list [dT (whitesOf c one), dT (blacksOf c one), dT (whitesOf c other), dT (blacksOf c other)]) :=
      .lst (.of eT) (.cons (dp_same (s14.trans (s15'.trans (s16'.trans t17))) hv1) (.cons (dp_same (s15'.trans (s16'.trans t17)) hv2) (.cons (dp_same (s16'.trans t17) hv3) (.cons (dp_same t17 hv4) .nil))))
    have dOwn : Dp K H17 (.ref pO) (.list [dT (whitesOf c one), dT (blacksOf c one), dT (whitesOf c other), dT (blacksOf c other)]) :=
      .lst (.of (s12_17 _ _ eO)) (.cons (dp_same s12_17 hw1') (.cons (dp_same s12_17 hw2') (.cons (dp_same s12_17 hw3') (.cons (dp_same s12_17 hw4') .nil))))
    have okw1 := whites_row hc ok1 m7.1
    have okw2 := blacks_row hc ok1 m7.1
    have okw3 := whites_row hc ok2 m7.1
    have okw4 := blacks_row hc ok2 m7.1
    have l16 := line16
    have rwO : RepW (.list [dT (whitesOf c one), dT (blacksOf c one), dT (whitesOf c other), dT (blacksOf c other)]) 2 3000 := by
      refine (RepW.lst (k := 1) (l := 700) fun d hd => ?_).mono (Nat.le_refl _) (by show 3 + (700 + 2) * 4 ≤ 3000; decide)
      rcases List.mem_cons.mp hd with rfl | hd
      · exact rep_row hc okw1 (by omega)
      · rcases List.mem_cons.mp hd with rfl | hd
        · exact rep_row hc okw2 (by omega)
        · rcases List.mem_cons.mp hd with rfl | hd
          · exact rep_row hc okw3 (by omega)
          · have e : d = dT (blacksOf c other) := by simpa using hd
            rw [e]
            exact rep_row hc okw4 (by omega)
    -- if repr(told) != repr(own)
    refine ⟨_, rfl, pT, _, rfl, dTold, rwO.s, rwO.h, Nat.le_trans rwO.dp (by decide), Nat.le_trans rwO.ln (by omega), ?_⟩
    refine ⟨_, rfl, pO, _, rfl, dOwn, rwO.s, rwO.h, Nat.le_trans rwO.dp (by decide), Nat.le_trans rwO.ln (by omega), rfl, _, rfl, ?_⟩
    rw [decide_eq_true rfl]
    refine iteF ?_
    obtain ⟨a1, rfl, ha1⟩ := dp_T' (dp_same s12_17 hw1')
    obtain ⟨a2, rfl, ha2⟩ := dp_T' (dp_same s12_17 hw2')
    obtain ⟨a3, rfl, ha3⟩ := dp_T' (dp_same s12_17 hw3')
    obtain ⟨a4, rfl, ha4⟩ := dp_T' (dp_same s12_17 hw4')
    have eO17 := s12_17 _ _ eO
    show tSeq _ _ _ _ _
    -- due
    refine ⟨_, rfl, pO, _, 0, .ref a1, rfl, rfl, .of eO17, atI_nat (j := 0) rfl, _, rfl, pO, _, 3, .ref a4, rfl, rfl, .of eO17, atI_nat (j := 3) rfl, ?_⟩
    refine ⟨a1, a4, _, _, rfl, .inr ⟨ha1, ha4, fun D3 hD3 => ?_⟩⟩
    refine lc_val (walk_zipT rfl) (fun j => .int ((whitesOf c one).getD j 0 * (blacksOf c other).getD j 0)) hD3 (by rw [List.length_map, List.length_map]; have := okw1.1; omega) (fun H' z => ⟨same_tup z ha1, same_tup z ha4⟩) (fun j x Hc Hd N hj s18 _ y k => ?_) (fun H18 s18 eD3 => ?_)
    · obtain ⟨T, u, v, rfl, hT, rfl, g1, g2⟩ := y
      obtain ⟨y1, hy1, rfl⟩ := int_get g1
      obtain ⟨y2, hy2, rfl⟩ := int_get g2
      have z := k _ (same_upd (o := .tup [.int y1, .int y2]) hT)
      rw [getD_of hy1, getD_of hy2] at z
      have b1 := okw1.2 y1 (List.mem_of_getElem? hy1)
      have b2 := okw4.2 y2 (List.mem_of_getElem? hy2)
      exact ⟨T, _, rfl, .of upd_same, rfl, _, _, rfl, _, _, rfl, rfl, rfl, _, rfl, _, rfl, _, _, rfl, rfl, .inl ⟨by omega, by omega⟩, z⟩
    have zz1 := zip_range_getD (whitesOf c one) (blacksOf c other) fun x y => x * y
    refine ⟨D3, List.zipWith (fun x y => x * y) (whitesOf c one) (blacksOf c other), rfl, .of (by rw [eD3, ← zz1, List.map_map, List.length_map, List.length_map]; rfl), ?_⟩
    refine ⟨_, rfl, pO, _, 2, .ref a3, rfl, rfl, .of (s18 _ _ eO17), atI_nat (j := 2) rfl, _, rfl, pO, _, 1, .ref a2, rfl, rfl, .of (s18 _ _ eO17), atI_nat (j := 1) rfl, ?_⟩
    have ha3' := same_tup s18 ha3
    have ha2' := same_tup s18 ha2
    refine ⟨a3, a2, _, _, rfl, .inr ⟨ha3', ha2', fun D4 hD4 => ?_⟩⟩
    refine lc_val (walk_zipT rfl) (fun j => .int ((whitesOf c other).getD j 0 * (blacksOf c one).getD j 0)) hD4 (by rw [List.length_map, List.length_map]; have := okw3.1; omega) (fun H' z => ⟨same_tup z ha3', same_tup z ha2'⟩) (fun j x Hc Hd N hj s19 _ y k => ?_) (fun H19 s19 eD4 => ?_)
    · obtain ⟨T, u, v, rfl, hT, rfl, g1, g2⟩ := y
      obtain ⟨y1, hy1, rfl⟩ := int_get g1
      obtain ⟨y2, hy2, rfl⟩ := int_get g2
      have z := k _ (same_upd (o := .tup [.int y1, .int y2]) hT)
      rw [getD_of hy1, getD_of hy2] at z
      have b1 := okw3.2 y1 (List.mem_of_getElem? hy1)
      have b2 := okw2.2 y2 (List.mem_of_getElem? hy2)
      exact ⟨T, _, rfl, .of upd_same, rfl, _, _, rfl, _, _, rfl, rfl, rfl, _, rfl, _, rfl, _, _, rfl, rfl, .inl ⟨by omega, by omega⟩, z⟩
    have zz2 := zip_range_getD (whitesOf c other) (blacksOf c one) fun x y => x * y
    refine ⟨D4, List.zipWith (fun x y => x * y) (whitesOf c other) (blacksOf c one), rfl, .of (by rw [eD4, ← zz2, List.map_map, List.length_map, List.length_map]; rfl), ?_⟩
    have s7_19 : Same H7 H19 := (s7_12.trans s12_17).trans (s18.trans s19)
    refine ⟨_, _, rfl, rfl, ?_⟩
    dsimp only [gName]
    -- if swing(clock, one, other) != int(due) % clock or not spaces_right(..)
    have hbud : budS m ≤ 200 := by rcases hm with h | h | h | h | h <;> subst h <;> decide
    have esw := swing_law (c := c) (n := 2 * (m + 1)) (a := one) (b := other) (by omega) ok1.1 ok2.1
    refine ⟨_, rfl, _, rfl, _, rfl, c, 2 * (m + 1), .ref D1, .ref D2, one, other, rfl, hc, ⟨D1, rfl, .inl (.of (s7_19 _ _ e1))⟩, ⟨D2, rfl, .inl (.of (s7_19 _ _ eD2))⟩, ok1, ok2, by omega, by omega, by omega, fun H20 s20 => ?_⟩
    rw [esw]
    refine ⟨_, rfl, .inl ⟨_, rfl, _, rfl, _, _, rfl, rfl, c0, rfl, _, rfl, ?_⟩⟩
    have edec : (!decide (V.int ((dotL (whitesOf c one) (blacksOf c other) - dotL (whitesOf c other) (blacksOf c one)) % c) = V.int (((List.zipWith (fun x y => x * y) (whitesOf c one) (blacksOf c other)).sum - (List.zipWith (fun x y => x * y) (whitesOf c other) (blacksOf c one)).sum) % c))) = false := by
      rw [decide_eq_true (show V.int ((dotL (whitesOf c one) (blacksOf c other) - dotL (whitesOf c other) (blacksOf c one)) % c) = V.int (((List.zipWith (fun x y => x * y) (whitesOf c one) (blacksOf c other)).sum - (List.zipWith (fun x y => x * y) (whitesOf c other) (blacksOf c one)).sum) % c) from rfl)]
      rfl
    have s7_20 := s7_19.trans s20
    have hb20 : Board K H20 B A (bud + 50 + budS m) := (hb8.same s7_20).le (by omega)
    refine iteFb edec ?_
    refine ⟨_, rfl, _, rfl, _, rfl, B, A, c, m, bud + 50, rfl, hb20, hc, m7.1, m7.2, fun H21 s21 hb21 => ⟨_, rfl, iteF ?_⟩⟩
    show tSeq _ _ _ _ _
    -- none, some
    refine ⟨_, rfl, (by show 6 ≤ sizeLine; decide), fun S3 hS3 => ⟨B, A, S3, bud + 49, _, rfl, hb21.same (same_upd hS3), new_seq hb21 hS3, (by show 0 < 6; decide), (by show 6 < 1000; decide), fun H22 j3 xn s22 hb22 hj3 => ?_⟩⟩
    obtain ⟨nn1, nn2⟩ := none_pick (K := K) hj3
    refine ⟨(by show 0 ≤ sizeLine; decide), fun q1 hq1 => ⟨(by show 2 ≤ sizeLine; decide), fun q2 hq2 => ⟨(by show 1 ≤ sizeLine; decide), fun q3 hq3 => ⟨q3, 5, _, rfl, rfl, upd_same, by decide, by decide, (by show 1 * 5 ≤ sizeLine; decide), fun q4 hq4 => ⟨(by show 1 ≤ sizeLine; decide), fun q5 hq5 => ⟨q5, 18, _, rfl, rfl, upd_same, by decide, by decide, (by show 1 * 18 ≤ sizeLine; decide), fun q6 hq6 => ⟨_, rfl, (by show 1 ≤ sizeLine; decide), fun q7 hq7 => ⟨q7, 4, _, rfl, rfl, upd_same, by decide, by decide, (by show 1 * 4 ≤ sizeLine; decide), fun q8 hq8 => ⟨(by show 6 ≤ sizeLine; decide), fun q9 hq9 => ⟨(by show 2 ≤ sizeLine; decide), fun T5 hT5 => ?_⟩⟩⟩⟩⟩⟩⟩⟩⟩⟩
    have t1 := same_upd (o := .lst []) hq1
    have t2 := same_upd (o := .lst [.int 0, .int 0]) hq2
    have t3 := same_upd (o := .lst [.int 0]) hq3
    have t4 := same_upd (o := .lst (List.replicate (5 : Int).toNat [V.int 0]).flatten) hq4
    have t5' := same_upd (o := .lst [.int 0]) hq5
    have t6 := same_upd (o := .lst (List.replicate (18 : Int).toNat [V.int 0]).flatten) hq6
    have t7 := same_upd (o := .lst [.int c]) hq7
    have t8 := same_upd (o := .lst (List.replicate (4 : Int).toNat [V.int c]).flatten) hq8
    have t9 := same_upd (o := .lst [.non, .ref q1, .ref q2, .ref q4, .ref q6, .ref q8]) hq9
    have t10 := same_upd (o := .tup [xn, .ref q9]) hT5
    have u0 := t1.trans (t2.trans (t3.trans (t4.trans (t5'.trans (t6.trans (t7.trans (t8.trans (t9.trans t10))))))))
    have gq1 : (upd (upd (upd (upd (upd (upd (upd (upd (upd (upd H22 q1 (.lst [])) q2 (.lst [.int 0, .int 0])) q3 (.lst [.int 0])) q4 (.lst (List.replicate (5 : Int).toNat [V.int 0]).flatten)) q5 (.lst [.int 0])) q6 (.lst (List.replicate (18 : Int).toNat [V.int 0]).flatten)) q7 (.lst [.int c])) q8 (.lst (List.replicate (4 : Int).toNat [V.int c]).flatten)) q9 (.lst [.non, .ref q1, .ref q2, .ref q4, .ref q6, .ref q8])) T5 (.tup [xn, .ref q9])) q1 = some (.lst []) := (t2.trans (t3.trans (t4.trans (t5'.trans (t6.trans (t7.trans (t8.trans (t9.trans t10)))))))) _ _ upd_same
    have gq2 : (upd (upd (upd (upd (upd (upd (upd (upd (upd (upd H22 q1 (.lst [])) q2 (.lst [.int 0, .int 0])) q3 (.lst [.int 0])) q4 (.lst (List.replicate (5 : Int).toNat [V.int 0]).flatten)) q5 (.lst [.int 0])) q6 (.lst (List.replicate (18 : Int).toNat [V.int 0]).flatten)) q7 (.lst [.int c])) q8 (.lst (List.replicate (4 : Int).toNat [V.int c]).flatten)) q9 (.lst [.non, .ref q1, .ref q2, .ref q4, .ref q6, .ref q8])) T5 (.tup [xn, .ref q9])) q2 = some (.lst [.int 0, .int 0]) := (t3.trans (t4.trans (t5'.trans (t6.trans (t7.trans (t8.trans (t9.trans t10))))))) _ _ upd_same
    have gq4 : (upd (upd (upd (upd (upd (upd (upd (upd (upd (upd H22 q1 (.lst [])) q2 (.lst [.int 0, .int 0])) q3 (.lst [.int 0])) q4 (.lst (List.replicate (5 : Int).toNat [V.int 0]).flatten)) q5 (.lst [.int 0])) q6 (.lst (List.replicate (18 : Int).toNat [V.int 0]).flatten)) q7 (.lst [.int c])) q8 (.lst (List.replicate (4 : Int).toNat [V.int c]).flatten)) q9 (.lst [.non, .ref q1, .ref q2, .ref q4, .ref q6, .ref q8])) T5 (.tup [xn, .ref q9])) q4 = some (.lst (List.replicate (5 : Int).toNat [V.int 0]).flatten) := (t5'.trans (t6.trans (t7.trans (t8.trans (t9.trans t10))))) _ _ upd_same
    have gq6 : (upd (upd (upd (upd (upd (upd (upd (upd (upd (upd H22 q1 (.lst [])) q2 (.lst [.int 0, .int 0])) q3 (.lst [.int 0])) q4 (.lst (List.replicate (5 : Int).toNat [V.int 0]).flatten)) q5 (.lst [.int 0])) q6 (.lst (List.replicate (18 : Int).toNat [V.int 0]).flatten)) q7 (.lst [.int c])) q8 (.lst (List.replicate (4 : Int).toNat [V.int c]).flatten)) q9 (.lst [.non, .ref q1, .ref q2, .ref q4, .ref q6, .ref q8])) T5 (.tup [xn, .ref q9])) q6 = some (.lst (List.replicate (18 : Int).toNat [V.int 0]).flatten) := (t7.trans (t8.trans (t9.trans t10))) _ _ upd_same
    have gq8 : (upd (upd (upd (upd (upd (upd (upd (upd (upd (upd H22 q1 (.lst [])) q2 (.lst [.int 0, .int 0])) q3 (.lst [.int 0])) q4 (.lst (List.replicate (5 : Int).toNat [V.int 0]).flatten)) q5 (.lst [.int 0])) q6 (.lst (List.replicate (18 : Int).toNat [V.int 0]).flatten)) q7 (.lst [.int c])) q8 (.lst (List.replicate (4 : Int).toNat [V.int c]).flatten)) q9 (.lst [.non, .ref q1, .ref q2, .ref q4, .ref q6, .ref q8])) T5 (.tup [xn, .ref q9])) q8 = some (.lst (List.replicate (4 : Int).toNat [V.int c]).flatten) := (t9.trans t10) _ _ upd_same
    have gq9 : (upd (upd (upd (upd (upd (upd (upd (upd (upd (upd H22 q1 (.lst [])) q2 (.lst [.int 0, .int 0])) q3 (.lst [.int 0])) q4 (.lst (List.replicate (5 : Int).toNat [V.int 0]).flatten)) q5 (.lst [.int 0])) q6 (.lst (List.replicate (18 : Int).toNat [V.int 0]).flatten)) q7 (.lst [.int c])) q8 (.lst (List.replicate (4 : Int).toNat [V.int c]).flatten)) q9 (.lst [.non, .ref q1, .ref q2, .ref q4, .ref q6, .ref q8])) T5 (.tup [xn, .ref q9])) q9 = some (.lst [.non, .ref q1, .ref q2, .ref q4, .ref q6, .ref q8]) := (t10) _ _ upd_same
    refine ⟨T5, _, rfl, .of upd_same, rfl, _, _, rfl, _, _, rfl, rfl, ?_⟩
    dsimp only [gName]
    generalize upd (upd (upd (upd (upd (upd (upd (upd (upd (upd H22 q1 (.lst [])) q2 (.lst [.int 0, .int 0])) q3 (.lst [.int 0])) q4 (.lst (List.replicate (5 : Int).toNat [V.int 0]).flatten)) q5 (.lst [.int 0])) q6 (.lst (List.replicate (18 : Int).toNat [V.int 0]).flatten)) q7 (.lst [.int c])) q8 (.lst (List.replicate (4 : Int).toNat [V.int c]).flatten)) q9 (.lst [.non, .ref q1, .ref q2, .ref q4, .ref q6, .ref q8])) T5 (.tup [xn, .ref q9]) = H23 at u0 gq1 gq2 gq4 gq6 gq8 gq9 ⊢
    -- bad
    have hb23 : Board K H23 B A (bud + 49) := hb22.same u0
    refine ⟨_, rfl, _, rfl, (by show 4 ≤ sizeLine; decide), fun r1 hr1 => ⟨1, rfl, (by show 1 ≤ sizeLine; decide), fun r2 hr2 => ⟨r2, 4, _, rfl, rfl, upd_same, by decide, by decide, (by show 1 * 4 ≤ sizeLine; decide), fun r3 hr3 => ⟨(by show 1 ≤ sizeLine; decide), fun r4 hr4 => ⟨r4, 17, _, rfl, rfl, upd_same, by decide, by decide, (by show 1 * 17 ≤ sizeLine; decide), fun r5 hr5 r6 hr6 => ⟨(by show 6 ≤ sizeLine; decide), fun r7 hr7 => ?_⟩⟩⟩⟩⟩⟩
    have w1 := same_upd (o := (.lst [.int 0, .int 0, .int 0, .bl true])) hr1
    have w2 := same_upd (o := (.lst [.int (-1)])) hr2
    have w3 := same_upd (o := (.lst (List.replicate (4 : Int).toNat [V.int (-1)]).flatten)) hr3
    have w4 := same_upd (o := (.lst [.int 0])) hr4
    have w5 := same_upd (o := (.lst (List.replicate (17 : Int).toNat [V.int 0]).flatten)) hr5
    have w6 := same_upd (o := (.dK [])) hr6
    have w7 := same_upd (o := (.lst [.ref r1, .ref r3, .str "0000", .ref r5, .ref r6, .int 5])) hr7
    have v0 := w1.trans (w2.trans (w3.trans (w4.trans (w5.trans (w6.trans w7)))))
    have gr1 : (upd (upd (upd (upd (upd (upd (upd H23 r1 (.lst [.int 0, .int 0, .int 0, .bl true])) r2 (.lst [.int (-1)])) r3 (.lst (List.replicate (4 : Int).toNat [V.int (-1)]).flatten)) r4 (.lst [.int 0])) r5 (.lst (List.replicate (17 : Int).toNat [V.int 0]).flatten)) r6 (.dK [])) r7 (.lst [.ref r1, .ref r3, .str "0000", .ref r5, .ref r6, .int 5])) r1 = some (.lst [.int 0, .int 0, .int 0, .bl true]) := (w2.trans (w3.trans (w4.trans (w5.trans (w6.trans w7))))) _ _ upd_same
    have gr3 : (upd (upd (upd (upd (upd (upd (upd H23 r1 (.lst [.int 0, .int 0, .int 0, .bl true])) r2 (.lst [.int (-1)])) r3 (.lst (List.replicate (4 : Int).toNat [V.int (-1)]).flatten)) r4 (.lst [.int 0])) r5 (.lst (List.replicate (17 : Int).toNat [V.int 0]).flatten)) r6 (.dK [])) r7 (.lst [.ref r1, .ref r3, .str "0000", .ref r5, .ref r6, .int 5])) r3 = some (.lst (List.replicate (4 : Int).toNat [V.int (-1)]).flatten) := (w4.trans (w5.trans (w6.trans w7))) _ _ upd_same
    have gr5 : (upd (upd (upd (upd (upd (upd (upd H23 r1 (.lst [.int 0, .int 0, .int 0, .bl true])) r2 (.lst [.int (-1)])) r3 (.lst (List.replicate (4 : Int).toNat [V.int (-1)]).flatten)) r4 (.lst [.int 0])) r5 (.lst (List.replicate (17 : Int).toNat [V.int 0]).flatten)) r6 (.dK [])) r7 (.lst [.ref r1, .ref r3, .str "0000", .ref r5, .ref r6, .int 5])) r5 = some (.lst (List.replicate (17 : Int).toNat [V.int 0]).flatten) := (w6.trans w7) _ _ upd_same
    have gr6 : (upd (upd (upd (upd (upd (upd (upd H23 r1 (.lst [.int 0, .int 0, .int 0, .bl true])) r2 (.lst [.int (-1)])) r3 (.lst (List.replicate (4 : Int).toNat [V.int (-1)]).flatten)) r4 (.lst [.int 0])) r5 (.lst (List.replicate (17 : Int).toNat [V.int 0]).flatten)) r6 (.dK [])) r7 (.lst [.ref r1, .ref r3, .str "0000", .ref r5, .ref r6, .int 5])) r6 = some (.dK []) := w7 _ _ upd_same
    have gr7 : (upd (upd (upd (upd (upd (upd (upd H23 r1 (.lst [.int 0, .int 0, .int 0, .bl true])) r2 (.lst [.int (-1)])) r3 (.lst (List.replicate (4 : Int).toNat [V.int (-1)]).flatten)) r4 (.lst [.int 0])) r5 (.lst (List.replicate (17 : Int).toNat [V.int 0]).flatten)) r6 (.dK [])) r7 (.lst [.ref r1, .ref r3, .str "0000", .ref r5, .ref r6, .int 5])) r7 = some (.lst [.ref r1, .ref r3, .str "0000", .ref r5, .ref r6, .int 5]) := upd_same
    refine ⟨q9, r7, _, _, rfl, rfl, v0 _ _ gq9, gr7, (by show 6 + 6 ≤ sizeLine; decide), fun S4 hS4 => ?_⟩
    generalize (upd (upd (upd (upd (upd (upd (upd H23 r1 (.lst [.int 0, .int 0, .int 0, .bl true])) r2 (.lst [.int (-1)])) r3 (.lst (List.replicate (4 : Int).toNat [V.int (-1)]).flatten)) r4 (.lst [.int 0])) r5 (.lst (List.replicate (17 : Int).toNat [V.int 0]).flatten)) r6 (.dK [])) r7 (.lst [.ref r1, .ref r3, .str "0000", .ref r5, .ref r6, .int 5])) = H24 at v0 gr1 gr3 gr5 gr6 gr7 hS4 ⊢
    have hb24 : Board K H24 B A (bud + 49) := hb23.same v0
    refine ⟨B, A, S4, bud + 48, _, rfl, hb24.same (same_upd hS4), new_seq hb24 hS4, (by show 0 < 12; decide), (by show 12 < 1000; decide), fun H25 j4 xb s25 hb25 hj4 => ?_⟩
    dsimp only [gName]
    have v1 : SameB B H24 H25 := (SameB.of (same_upd hS4)).trans s25
    have hbad : BadV K H25 c xb := bad_pick hc (sameB_get (board_neL hb23 gq1 (by decide)) v1 (v0 _ _ gq1)) (sameB_get (board_neL hb23 gq2 (by decide)) v1 (v0 _ _ gq2)) (sameB_get (board_neL hb23 gq4 (by decide)) v1 (v0 _ _ gq4)) (sameB_get (board_neL hb23 gq6 (by decide)) v1 (v0 _ _ gq6)) (sameB_get (board_neL hb23 gq8 (by show 4 ≠ 3; decide)) v1 (v0 _ _ gq8))
      (sameB_get (board_neL hb24 gr1 (by decide)) v1 gr1) (sameB_get (board_neL hb24 gr3 (by decide)) v1 gr3) (sameB_get (board_neL hb24 gr5 (by decide)) v1 gr5) (sameB_get (board_neD hb24 gr6) v1 gr6) hj4
    have s7_25 : SameB B H7 H25 := (SameB.of s7_20).trans (s21.trans (((SameB.of (same_upd hS3)).trans s22).trans ((SameB.of u0).trans ((SameB.of v0).trans v1))))
    have sE := sameB_get nD1 s7_25 e1
    obtain ⟨bs, hbs⟩ := hb3.at
    have sT : LamX.Tabs [(PL, "law.<locals>.<lambda>")] H25 := tabs_sameB hbs (s27.trans s7_25) hT2
    have tOne : H25 D1 = some (.lst (one.map V.int)) := sE
    exact law_tail (K := K) (C := C) (PL := PL) (Er := Er) (bud := bud) SN hc (hb25.le (by omega)) sT nn1 nn2 hbad tOne (by rw [List.length_map, lone]; omega) fun H' z13 z14 z15 z16 z17 hb' hT' => ⟨hb', hT', _, _, _, _, _, _, _, _, _, _, _, _, _, _, _, _, _, _, _, rfl⟩
  · rintro σ Ha ⟨_, _, x2, x3, x4, x5, x6, x7, x8, x9, x10, x11, x12, x13, x14, x15, x16, x17, x18, x19, x20, rfl⟩
    exact q _
end
end K61

set_option Elab.async false
set_option linter.all false
set_option maxRecDepth 100000
set_option maxHeartbeats 4000000
/-! The end: the law is called from outside, where no repr is under way; one table of code objects. -/
namespace K61
open PySem PySem.Spec PyProof.Rows L2
/-- what is told of the heap ahead of the call: the empty table, the script unless the written part has it -/
def heap0 (K : PySem.W.Frag) (a T : Addr) (o : Obj) (xs : List V) : Hp := fun b => if b = T then some (.tbl #[]) else if b = a ∧ K.lookup a = none then some (.frz o (.lst xs)) else none
section
variable {K : PySem.W.Frag} {a T : Addr} {o : Obj} {xs : List V}
theorem heap0_T : heap0 K a T o xs T = some (.tbl #[]) := if_pos rfl
theorem heap0_no {b : Addr} (h1 : b ≠ T) (h2 : b ≠ a ∨ K.lookup a ≠ none) : heap0 K a T o xs b = none := by
  unfold heap0
  rw [if_neg h1, if_neg]
  intro z
  rcases h2 with h2 | h2
  · exact h2 z.1
  · exact h2 z.2
theorem heap0_cases (b : Addr) : (b = T ∧ heap0 K a T o xs b = some (.tbl #[])) ∨ (b ≠ T ∧ b = a ∧ K.lookup a = none ∧ heap0 K a T o xs b = some (.frz o (.lst xs))) ∨ (b ≠ T ∧ heap0 K a T o xs b = none) := by
  by_cases h1 : b = T
  · exact .inl ⟨h1, by rw [h1]; exact heap0_T⟩
  · by_cases h2 : b = a ∧ K.lookup a = none
    · refine .inr (.inl ⟨h1, h2.1, h2.2, ?_⟩)
      unfold heap0
      rw [if_neg h1, if_pos h2]
    · refine .inr (.inr ⟨h1, ?_⟩)
      unfold heap0
      rw [if_neg h1, if_neg h2]
end
theorem call_end {P : Program} {w : World} {K : PySem.W.Frag} {mg mb : Str → Option Value} {k : Nat} {fa a c T : Addr} {fd : FuncData} {x : Str} {sp : Sp} {s : Shared} {vs : List Value} {ns : List Int} (KX : K.In s.heap) (Gm : s.heap.Ns mainGlobals mg) (Gb : s.heap.Ns builtinsNs mb)
    (bb : ∀ y : Str, y ≠ "__name__" → mb y = bootBuiltins y) (lim : s.heap.NoLimit) (noG : s.gens = #[]) (eT : s.heap.get? T = some { cls := .none, data := .fields #[] }) (nT : K.lookup T = none) (Cd : PySem.W.CodeHd s.heap c T)
    (bm : ∃ (m : Addr) (om : Obj), mg "__builtins__" = some (.ref m) ∧ m ≠ builtinsNs ∧ s.heap.get? m = some om ∧ om.cls = .type "module" ∧ om.dict = some builtinsNs ∧ om.data = .plain)
    (ea : s.heap.get? a = some { cls := .type "list", data := .seq vs.toArray }) (ia : IntsAre vs ns) (short : ns.length ≤ sizeLine) (room : Room k callerA)
    (F : ∀ base : Heap, K.In base → base.Ns mainGlobals mg → LamX.TabB base mg c T → FnG P w K mg base CX0 k fa fd [x] sp) (bnd : ∀ (s : Shared) (u : Value), BindsTo s fd ⟨[u], []⟩ [(x, u)])
    (ask : ∀ H : Hp, H T = some (.tbl #[]) → SqL K H a (ns.map V.int) → sp [.ref a] H (fun v _ => v = .bl true) fun _ _ _ => False) :
    codeAny (model P w) callerA (.call (.ref fa) ⟨[.ref a], []⟩) (fun r s' => r = .ok (.ret (.bool true)) ∧ OldK s.heap s'.heap ∧ s'.os = s.os ∧ AllBare s'.gens) s := by
  have rel := vals_ints ia
  have lv := ia.length
  have aT : a ≠ T := fun z => by
    rw [z, eT] at ea
    cases ea
  have kA : ∀ o, K.lookup a = some o → o = { cls := .type "list", data := .seq vs.toArray } := fun o e => by
    have z := KX a o e
    rw [ea] at z
    exact (Option.some.inj z).symm
  generalize hH : heap0 K a T { cls := .type "list", data := .seq vs.toArray } (ns.map V.int) = H
  have HT : H T = some (.tbl #[]) := by rw [← hH]; exact heap0_T
  have Hc : ∀ b, (b = T ∧ H b = some (.tbl #[])) ∨ (b ≠ T ∧ b = a ∧ K.lookup a = none ∧ H b = some (.frz { cls := .type "list", data := .seq vs.toArray } (.lst (ns.map V.int)))) ∨ (b ≠ T ∧ H b = none) := fun b => by
    rw [← hH]
    exact heap0_cases b
  have fits : (ns.map V.int).length ≤ sizeLine := by rw [List.length_map]; exact short
  have seqA : SqL K H a (ns.map V.int) := by
    cases e : K.lookup a with
    | none =>
      refine .inl (.inr ⟨{ cls := .type "list", data := .seq vs.toArray }, ?_⟩)
      rcases Hc a with ⟨z, _⟩ | ⟨_, _, _, z⟩ | ⟨_, z⟩
      · exact absurd z aT
      · exact z
      · rw [← hH] at z
        unfold heap0 at z
        rw [if_neg aT, if_pos ⟨rfl, e⟩] at z
        cases z
    | some o =>
      have eo := kA o e
      subst eo
      exact .inr ⟨_, vs.toArray, _, e, rfl, rfl, rfl, by rw [List.size_toArray, lv]; exact short, by simpa using rel⟩
  have held : HOk P w H s.heap := fun b u e => by
    rcases Hc b with ⟨z, z2⟩ | ⟨_, z, _, z2⟩ | ⟨_, z2⟩
    · rw [z2] at e
      cases e
      rw [z]
      exact eT
    · rw [z2] at e
      cases e
      rw [z]
      exact ⟨ea, fits, vs, _, rel, ea⟩
    · rw [z2] at e
      cases e
  -- what is neither a list nor an empty table is not told of
  have apart : ∀ {b : Addr} {o : Obj}, s.heap.get? b = some o → (∀ its n, o.data ≠ .seq its n) → o.data ≠ .fields #[] → H b = none := fun {b o} e n1 n2 => by
    rcases Hc b with ⟨z, _⟩ | ⟨_, z, _, _⟩ | ⟨_, z⟩
    · rw [z, eT] at e
      cases e
      exact absurd rfl n2
    · rw [z, ea] at e
      cases e
      exact absurd rfl (n1 _ _)
    · exact z
  have inBase : ∀ {b : Addr} {o : Obj}, s.heap.get? b = some o → H b = none → (hidT s.heap H).get? b = some o := fun e n => hidT_get e n
  have nsBase : ∀ {b : Addr} {m : Str → Option Value}, s.heap.Ns b m → (hidT s.heap H).Ns b m := fun {b m} h => by
    obtain ⟨o, es, ep, e, hd, r⟩ := h
    exact ⟨o, es, ep, inBase e (apart e (fun its n z => by rw [hd] at z; cases z) (fun z => by rw [hd] at z; cases z)), hd, r⟩
  have kBase : K.In (hidT s.heap H) := fun b o e => inBase (KX b o e) (by
    rcases Hc b with ⟨z, _⟩ | ⟨_, z, z2, _⟩ | ⟨_, z⟩
    · rw [z, nT] at e
      cases e
    · rw [z, z2] at e
      cases e
    · exact z)
  have limBase : (hidT s.heap H).NoLimit := by
    obtain ⟨m, h1, h2⟩ := lim
    exact ⟨m, nsBase h1, h2⟩
  have gT : mainGlobals ≠ T := fun z => by
    obtain ⟨o, es, ep, e, hd, _⟩ := Gm
    rw [z, eT] at e
    cases e
    cases hd
  have tab : LamX.TabB (hidT s.heap H) mg c T := by
    refine ⟨?_, ?_, gT⟩
    · obtain ⟨o, us, file, tf, fl, tg, inF, tx, tt, e, c1, c2, c3, rest⟩ := Cd
      refine ⟨o, us, file, tf, fl, tg, inF, tx, tt, inBase e (apart e (fun its n z => by rw [c2] at z; cases z) (fun z => ?_)), c1, c2, c3, rest⟩
      rw [c2] at z
      injection z with z
      rw [z] at c3
      simp at c3
    · obtain ⟨m, om, b1, b2, b3, b4, b5, b6⟩ := bm
      refine ⟨m, om, b1, b2, fun z => ?_, fun z => ?_, inBase b3 (apart b3 (fun its n z => by rw [b6] at z; cases z) (fun z => by rw [b6] at z; cases z)), b4, b5, b6⟩
      · obtain ⟨o, es, ep, e, hd, _⟩ := Gm
        rw [z, e] at b3
        cases b3
        rw [hd] at b6
        cases b6
      · rw [z, eT] at b3
        cases b3
        cases b6
  have env : Env0 P w K mg (hidT s.heap H) callerA [] s H :=
    ⟨rfl, ⟨kBase, nsBase Gm, ⟨mb, nsBase Gb, bb⟩, limBase⟩, fun b o e => of_hidT e, Nat.le_of_eq (hidT_size _ _), trivial, fun b z => (nomatch z), held, .of_eq noG⟩
  refine codeAny_mono ((F _ kBase (nsBase Gm) tab).run callerA [] s H ⟨[.ref a], []⟩ [.ref a] [.ref a] _ _ rfl room env (bnd s (.ref a)) (.cons rfl .nil) (ask H HT seqA)) fun r s' res => ?_
  match r, res with
  | .ok (.ret u), res =>
    obtain ⟨v, H', os, bare, un, held', rv, rfl⟩ := res
    obtain rfl : u = Value.bool true := rv
    obtain ⟨more, eM⟩ := un.tbls T #[] HT
    have tM : s'.heap.get? T = some { cls := .none, data := .fields (#[] ++ more) } := held' T _ eM
    have stay : ∀ b o, b ≠ T → s.heap.get? b = some o → s'.heap.get? b = some o := fun b o nb e => by
      rcases Hc b with ⟨z, _⟩ | ⟨_, z, _, z2⟩ | ⟨_, z2⟩
      · exact absurd z nb
      · have e1 := (held' b _ (un.frzs b _ _ z2)).1
        rw [z] at e e1 ⊢
        rw [ea] at e
        rw [← e]
        exact e1
      · exact un.keep b o e z2 (fun z => nomatch z) (fun z => nomatch z)
    refine ⟨rfl, ⟨fun b o e => ?_, fun b o e => ?_⟩, os, bare⟩
    · by_cases hb : b = T
      · rw [hb] at e ⊢
        have eo := Option.some.inj (eT.symm.trans e)
        rw [← eo]
        exact .inr (.inl ⟨(Cd.tab eT).isCodeTable, rfl, #[], more, rfl, tM⟩)
      · exact .inl (stay b o hb e)
    · by_cases hb : b = T
      · exact ⟨_, by rw [hb]; exact tM⟩
      · exact ⟨o, stay b o hb e⟩
end K61

set_option Elab.async false
set_option linter.all false
set_option maxRecDepth 100000
set_option maxHeartbeats 4000000
/-! The head's facts of the error classes, as Bools of the written part. -/
namespace K61
open PySem PySem.W PySem.Calls PyProof.Rows PySem.HandSPX
/-- the __init__ of the error class x -/
abbrev iAd (K : Frag) (x : Str) : Addr := He.ma K (He.ga K x) "__init__"
abbrev InW : Type := Option (Str × Str × Arguments × FuncBody × Scope × Addr × List Str × Value × Value × Addr)
def inW (K : Frag) (x : Str) : InW := match K.lookup (iAd K x) with
  | some ⟨_, _, .func fd, _⟩ => some (fd.name, fd.qualname, fd.params, fd.body, fd.scope, fd.globals, fd.closure.map (·.1), fd.defaults, fd.kwdefaults, fd.builtins)
  | _ => none
/-- the class statement's first def -/
def eth (i : Nat) : Stmt := (clsBody (top i)).getD 0 (.Pass ⟨0, 0, 0, 0⟩)
def inVal (ql : Str) (i : Nat) : InW := some ("__init__", ql, L2.defArgs (eth i), .stmts (L2.defBody (eth i)), L2.defScope (eth i), mainGlobals, ["__class__"], .none, .none, builtinsNs)
def pA (a : Arguments) (k : Nat) : Pos := match a.args[k]? with
  | some x => x.pos
  | none => ⟨0, 0, 0, 0⟩
def pB : List Stmt → Nat → Pos
  | [.Expr (.Call (.Attribute (.Call (.Name _ a0) _ _ a1) _ a2) [.Attribute (.Attribute (.Name _ a3) _ a4) _ a5] _ a6) a7, .Assign [.Attribute (.Name _ a8) _ a9] (.Name _ a10) a11], k => [a0, a1, a2, a3, a4, a5, a6, a7, a8, a9, a10, a11].getD k ⟨0, 0, 0, 0⟩
  | _, _ => ⟨0, 0, 0, 0⟩
/-- an error class's object: own classes ahead of ValueError, a dict, its name -/
def clB (K : Frag) (C : Addr) (nm : Str) : Bool := match K.lookup C with
  | some ⟨.type "type", _, .cls cd, sl⟩ => (match cd.mro, sl.toList with
    | .ref C' :: bm, [_, _, some (.str z _), _, some (.builtin b), _] => decide (C' = C) && (decide (z = nm) && (decide (b = "ValueError.__new__") && (!cd.hasDel && (cd.hasDict && (refsVE bm && decide (cd.name = nm))))))
    | _, _ => false)
  | _ => false
theorem clB_ok {K : Frag} {C : Addr} {nm : Str} (h : clB K C nm = true) : ∃ q N bs bm sn sub ab col dd k0 k1 t2 k3 k5, K.lookup C = some (excClassObj nm q C N bs bm true sn sub ab col dd k0 k1 (some (.str nm t2)) k3 k5 "ValueError.__new__") ∧ refsVE bm = true := by
  unfold clB at h
  split at h
  · rename_i dd cd sl e
    split at h
    · rename_i C' bm k0 k1 z t2 k3 b k5 hm hs
      obtain ⟨h1, h⟩ := He.ba h
      obtain ⟨h2, h⟩ := He.ba h
      obtain ⟨h3, h⟩ := He.ba h
      obtain ⟨h4, h⟩ := He.ba h
      obtain ⟨h5, h⟩ := He.ba h
      obtain ⟨h6, h7⟩ := He.ba h
      have h1 := of_decide_eq_true h1
      have h2 := of_decide_eq_true h2
      have h3 := of_decide_eq_true h3
      have h7 := of_decide_eq_true h7
      obtain ⟨nm', bs, mro, ns, qn, hd, sn, sub, ab, col, dl⟩ := cd
      dsimp only at hm h4 h5 h7
      obtain ⟨l⟩ := sl
      dsimp only at hs
      subst h1 h2 h3 h7 hm hs h5
      cases dl with
      | true => cases h4
      | false => exact ⟨_, _, _, _, _, _, _, _, _, _, _, _, _, _, e, h6⟩
    · cases h
  · cases h
/-- an error's __init__: its code, the cell __class__, the file of its code -/
def inB (K : Frag) (C f : Addr) (ql pf : Str) : Bool := match K.lookup f with
  | some ⟨_, _, .func fd, _⟩ => codeIn K fd.code ql && ((match fd.closure with
    | [(_, c)] => (match K.lookup c with
      | some ⟨_, _, .cell (some (.ref D)), _⟩ => decide (D = C)
      | _ => false)
    | _ => false) && (match fd.code with
    | .ref c => (match K.lookup c with
      | some ⟨_, _, .fields vs, _⟩ => (match (vs[2]? : Option Value) with
        | some (.str z _) => pf == z
        | _ => false)
      | _ => false)
    | _ => false))
  | _ => false
theorem cellB_ok {K : Frag} {C c : Addr} (h : (match K.lookup c with
      | some ⟨_, _, .cell (some (.ref D)), _⟩ => decide (D = C)
      | _ => false) = true) : ∃ o, K.lookup c = some o ∧ o.data = .cell (some (.ref C)) := by
  split at h
  · rename_i e
    rw [← of_decide_eq_true h]
    exact ⟨_, e, rfl⟩
  · cases h
theorem fileB_ok {K : Frag} {c : Addr} {pf : Str} (h : (match K.lookup c with
      | some ⟨_, _, .fields vs, _⟩ => (match (vs[2]? : Option Value) with
        | some (.str z _) => pf == z
        | _ => false)
      | _ => false) = true) : ∃ o vs z t, K.lookup c = some o ∧ o.data = .fields vs ∧ vs[2]? = some (.str z t) ∧ (pf == z) = true := by
  split at h
  · rename_i e
    split at h
    · rename_i e2
      exact ⟨_, _, _, _, e, rfl, e2, h⟩
    · cases h
  · cases h
theorem inB_ok {K : Frag} {C f : Addr} {nm ql pf : Str} {i : Nat} {p1 p2 : Pos} {q : Nat → Pos} (ef : f = iAd K nm) (e : inW K nm = inVal ql i) (h : inB K C f ql pf = true) (ha : L2.defArgs (eth i) = xA p1 p2) (hb : L2.defBody (eth i) = xB q) (hs : L2.defScope (eth i) = xS) (hl : ((q 2).endLine == (q 6).line) = true) :
    ∃ (oc doc pm ctu : Value) (od an : Option Addr) (osl : Array (Option Value)) (cda cc : Addr) (p1 p2 : Pos) (q : Nat → Pos) (vs : Array Value) (file : Str) (tf : Tok) (o1 o2 : Obj),
    K.lookup f = some ⟨oc, od, .func (ksFn "__init__" ql (xA p1 p2) (xB q) xS .none .none doc pm an (.ref cda) ctu cc), osl⟩ ∧ codeIn K (.ref cda) ql = true ∧ K.lookup cc = some o1 ∧ o1.data = .cell (some (.ref C)) ∧ K.lookup cda = some o2 ∧ o2.data = .fields vs ∧ vs[2]? = some (.str file tf) ∧ (pf == file) = true ∧ ((q 2).endLine == (q 6).line) = true := by
  unfold inW at e
  unfold inB at h
  rw [← ef] at e
  cases k : K.lookup f with
  | none =>
    rw [k] at e
    cases e
  | some o =>
    obtain ⟨oc, od, dt, osl⟩ := o
    rw [k] at e h
    cases dt with
    | func fd =>
      obtain ⟨n1, n2, n3, n4, n5, n6, n7, n8, n9, n10, n11, n12, n13, n14, n15⟩ := fd
      have e2 : (some (n1, n2, n3, n4, n5, n6, n7.map (·.1), n8, n9, n15) : InW) = (some ("__init__", ql, L2.defArgs (eth i), .stmts (L2.defBody (eth i)), L2.defScope (eth i), mainGlobals, ["__class__"], .none, .none, builtinsNs) : InW) := e
      simp only [Option.some.injEq, Prod.mk.injEq] at e2
      obtain ⟨h1, h2, h3, h4, h5, h6, h7, h8, h9, h10⟩ := e2
      rw [ha] at h3
      rw [hb] at h4
      rw [hs] at h5
      subst h1 h2 h3 h4 h5 h6 h8 h9 h10
      obtain ⟨k1, k2⟩ := He.ba h
      obtain ⟨k2, k3⟩ := He.ba k2
      dsimp only at k1 k2 k3
      match n7, h7, k2 with
      | [(a, cc)], h7, k2 =>
        have h7 : a = "__class__" := by simpa using h7
        subst h7
        obtain ⟨o1, c1, c2⟩ := cellB_ok k2
        cases n13 with
        | ref cda =>
          obtain ⟨o2, vs, file, tf, d1, d2, d3, d4⟩ := fileB_ok k3
          exact ⟨_, _, _, _, _, _, _, cda, cc, p1, p2, q, vs, file, tf, o1, o2, rfl, k1, c1, c2, d1, d2, d3, d4, hl⟩
        | _ => cases k3
    | _ =>
      cases e
/-- all of it -/
def xtB (K : Frag) (pf nm ql : Str) : Bool :=
  clB K (He.ga K nm) nm && (inB K (He.ga K nm) (iAd K nm) ql pf && (He.eqO (findIn K (.ref (He.ga K nm)) "__setattr__") (some (some (.builtin "object.__setattr__"))) && (L2.xfB K (He.ga K nm) && (He.eqO (findIn K (.ref (He.ga K nm)) "part") (some none) && (He.eqO (findIn K (.ref (He.ga K nm)) "__init__") (some (some (.ref (iAd K nm)))) &&
  (decide (typeIn K (.ref (iAd K nm)) = some (.type "function")) && (keepIn K (.ref (He.ga K nm)) && (decide (typeIn K (.ref (He.ga K nm)) = some (.type "type")) && (He.eqO (findIn K (.ref (He.ga K nm)) "__class__") (some (some (.builtin "object.__class__"))) && (He.eqO (specialIn K (.builtin "object.__class__") "__get__") (some (some (.builtin "getset_descriptor.__get__"))) &&
  (decide (takesIn K (.builtin "object.__class__") = some true) && (decide (mroIn K (He.ga K nm) (.type "object") = some true) && (He.eqO (nsIn K cStatics "thirdparty.any") (some none) && (He.eqO (ks_superIn K (He.ga K nm) (He.ga K nm) "__init__") (some (some (.builtin "ValueError.__init__"))) && (decide (subIn K (.ref (He.ga K nm)) (.type "ValueError") = some true) &&
  decide (mroIn K (He.ga K nm) (.ref (He.ga K nm)) = some true))))))))))))))))
theorem xtB_ok {P : Program} {K : Frag} {mg : Str → Option Value} {nm ql : Str} {i : Nat} {p1 p2 : Pos} {q : Nat → Pos} (h : xtB K P.main.file nm ql = true) (e : inW K nm = inVal ql i) (g : mg nm = some (.ref (He.ga K nm))) (ls : mg "super" = none) (ps : (P.main.scope.names.lookup ("super" : Str)).isSome = false)
    (ha : L2.defArgs (eth i) = xA p1 p2) (hb : L2.defBody (eth i) = xB q) (hs : L2.defScope (eth i) = xS) (hl : ((q 2).endLine == (q 6).line) = true) :
    ExTxt P K mg nm ql (He.ga K nm) (iAd K nm) ∧ L2.ExcC K (He.ga K nm) ∧ L2.XfC K (He.ga K nm) := by
  obtain ⟨h1, h⟩ := He.ba h
  obtain ⟨h2, h⟩ := He.ba h
  obtain ⟨h3, h⟩ := He.ba h
  obtain ⟨h4, h⟩ := He.ba h
  obtain ⟨h5, h⟩ := He.ba h
  obtain ⟨h6, h⟩ := He.ba h
  obtain ⟨h7, h⟩ := He.ba h
  obtain ⟨h8, h⟩ := He.ba h
  obtain ⟨h9, h⟩ := He.ba h
  obtain ⟨h10, h⟩ := He.ba h
  obtain ⟨h11, h⟩ := He.ba h
  obtain ⟨h12, h⟩ := He.ba h
  obtain ⟨h13, h⟩ := He.ba h
  obtain ⟨h14, h⟩ := He.ba h
  obtain ⟨h15, h⟩ := He.ba h
  obtain ⟨h16, h17⟩ := He.ba h
  have xf := L2.xfB_ok h4
  exact ⟨⟨g, clB_ok h1, He.eqO_ok h3, xf.ga, xf.gg, He.eqO_ok h5, He.eqO_ok h6, of_decide_eq_true h7, h8, xf.exC, of_decide_eq_true h9, xf.hdC, He.eqO_ok h10, He.eqO_ok h11, of_decide_eq_true h12, of_decide_eq_true h13, He.eqO_ok h14, He.eqO_ok h15, of_decide_eq_true h16, of_decide_eq_true h17, ls, ps, inB_ok rfl e h2 ha hb hs hl⟩,
    ⟨xf.ga, xf.gg, xf.exC, xf.hdC, He.eqO_ok h10, He.eqO_ok h11, of_decide_eq_true h12, of_decide_eq_true h13⟩, xf⟩
end K61

set_option Elab.async false
set_option linter.all false
set_option maxRecDepth 100000
set_option maxHeartbeats 8000000
/-! What the head tells of this program; the chain of the defs' promises (printed by mkhead.py). -/
namespace K61
open PySem PySem.Spec PyProof.Rows L2
abbrev PP : Program := (PySem.Challenge.rw_ropesays_k61_whole_whites_and_blacks).prog
def dOf (x : Str) (i : Nat) (dfl : List He.Dv) : He.DefD := ⟨(x, none), x, x, defArgs (top i), defBody (top i), defScope (top i), dfl, []⟩
def dMt (m ql : Str) (i : Nat) : He.DefD := ⟨("Space", some m), m, ql, defArgs (mth i), defBody (mth i), defScope (mth i), [], []⟩
def fns0 : List He.DefD := [dOf "is_integer" 10 [],
  dOf "is_within" 11 [],
  dOf "is_clock" 12 [],
  dOf "is_row" 13 [],
  dOf "inverse_in" 20 [],
  dOf "times_in" 21 [],
  dOf "lead_of" 30 [],
  dOf "cleared" 31 [],
  dOf "cleared_by" 32 [],
  dOf "with_row" 33 [],
  dOf "least_in" 34 [],
  dOf "whites_in" 53 [],
  dOf "blacks_in" 54 [],
  dOf "with_whites" 55 [],
  dOf "with_blacks" 56 [],
  dOf "differences" 47 [],
  dOf "swing_in" 48 [],
  dOf "form_of" 36 [],
  dOf "upright_rows" 37 [],
  dOf "need_number" 14 [],
  dOf "need_clock" 15 [],
  dOf "need_row" 16 [],
  dOf "need_sized" 17 [.int 1],
  dOf "need_space" 42 [.str "space"],
  dOf "need_ring" 58 [],
  dOf "need_rows" 40 [],
  dOf "space_in" 35 [],
  dOf "upright_in" 38 [],
  dOf "upright" 43 [],
  dOf "whites" 60 []]
def fns1 : List He.DefD := [dOf "blacks" 61 [],
  dOf "fair_by" 57 [],
  dOf "fair_of" 59 [],
  dOf "white_space" 62 [],
  dOf "black_space" 63 [],
  dOf "swing" 49 [],
  dOf "_law_chessboard" 65 [],
  dOf "_law_square" 66 [],
  dOf "_law_pick" 67 [],
  dOf "_law_less" 68 [],
  dOf "_law_whites" 73 [],
  dOf "_law_blacks" 74 [],
  dOf "_law_least" 69 [],
  dOf "_law_upright" 70 [],
  dOf "_law_fair" 71 [],
  dOf "_law_rows" 75 [],
  dOf "_law_heard" 72 [],
  dOf "_law_spaces_right" 76 [],
  dOf "law" 77 [],
  dMt "__init__" "Space.__init__" 0,
  dMt "__eq__" "Space.__eq__" 2]
def fns : List He.DefD := fns0 ++ fns1
def fas0 : List He.Fa := [.glo "is_integer",
  .glo "is_within",
  .glo "is_clock",
  .glo "is_row",
  .glo "inverse_in",
  .glo "times_in",
  .glo "lead_of",
  .glo "cleared",
  .glo "cleared_by",
  .glo "with_row",
  .glo "least_in",
  .glo "whites_in",
  .glo "blacks_in",
  .glo "with_whites",
  .glo "with_blacks",
  .glo "differences",
  .glo "swing_in",
  .glo "form_of",
  .glo "upright_rows",
  .glo "need_number",
  .glo "need_clock",
  .glo "need_row",
  .glo "need_sized",
  .glo "need_space",
  .glo "need_ring",
  .glo "need_rows",
  .glo "space_in",
  .glo "upright_in",
  .glo "upright",
  .glo "whites"]
def fas1 : List He.Fa := [.glo "blacks",
  .glo "fair_by",
  .glo "fair_of",
  .glo "white_space",
  .glo "black_space",
  .glo "swing",
  .glo "_law_chessboard",
  .glo "_law_square",
  .glo "_law_pick",
  .glo "_law_less",
  .glo "_law_whites",
  .glo "_law_blacks",
  .glo "_law_least",
  .glo "_law_upright",
  .glo "_law_fair",
  .glo "_law_rows",
  .glo "_law_heard",
  .glo "_law_spaces_right",
  .glo "law",
  .glo "BadClock",
  .glo "BadRow",
  .glo "BadSpace",
  .glo "Misfit",
  .glo "RopeError",
  .glo "Space",
  .glo "CLOCKS",
  .free "len",
  .free "range",
  .free "zip",
  .free "enumerate"]
def fas2 : List He.Fa := [.free "isinstance",
  .free "all",
  .free "sum",
  .free "sorted",
  .free "tuple",
  .free "list",
  .free "int",
  .free "bool",
  .free "abs",
  .free "min",
  .free "repr",
  .free "super",
  .int "MOST_SIZE" 400,
  .int "MOST_GIVEN" 400,
  .int "MOST_NAMES" 7,
  .int "MOST_GAPS_rims" 16,
  .int "LEAST_GAPS" 4,
  .int "MOST_GAPS_roped" 16,
  .cls "Space",
  .noat "Space" "clock",
  .noat "Space" "size",
  .noat "Space" "rows",
  .noat "Space" "depth",
  .meth "Space" "__eq__",
  .mkr "Space",
  .exm "BadClock" "RopeError" true,
  .exm "BadRow" "RopeError" true,
  .exm "BadSpace" "RopeError" true,
  .exm "Misfit" "RopeError" true]
def fas : List He.Fa := fas0 ++ fas1 ++ fas2
def inits : List (Str × Str × Nat) := [("BadClock", "BadClock.__init__", 3), ("BadRow", "BadRow.__init__", 4), ("BadSpace", "BadSpace.__init__", 5), ("Misfit", "Misfit.__init__", 6)]
def exs (K : PySem.W.Frag) : List Bool := [He.tupB K "CLOCKS" (clocks.map He.Dv.int),
  He.eqO (PySem.W.findIn K (.ref (He.ga K "Space")) "__class__") (some (some (.builtin "object.__class__"))),
  He.eqO (PySem.W.specialIn K (.builtin "object.__class__") "__get__") (some (some (.builtin "getset_descriptor.__get__"))),
  decide (PySem.W.takesIn K (.builtin "object.__class__") = some true),
  decide (PySem.W.mroIn K (He.ga K "Space") (.type "object") = some true),
  decide (PySem.W.kitOne K (.type "NoneType") (.ref (He.ga K "Space")) = some false),
  decide (PySem.W.kitOne K (.type "int") (.ref (He.ga K "Space")) = some false),
  decide (PySem.W.kitOne K (.type "list") (.ref (He.ga K "Space")) = some false),
  decide (PySem.W.kitOne K (.type "str") (.ref (He.ga K "Space")) = some false),
  decide (PySem.W.kitOne K (.type "bool") (.ref (He.ga K "Space")) = some false),
  xtB K PP.main.file "BadClock" "BadClock.__init__",
  xtB K PP.main.file "BadRow" "BadRow.__init__",
  xtB K PP.main.file "BadSpace" "BadSpace.__init__",
  xtB K PP.main.file "Misfit" "Misfit.__init__",
  decide (PySem.W.kitOne K (.ref (He.ga K "BadClock")) (.ref (He.ga K "BadClock")) = some true),
  decide (PySem.W.kitOne K (.ref (He.ga K "BadClock")) (.ref (He.ga K "BadRow")) = some false),
  decide (PySem.W.kitOne K (.ref (He.ga K "BadClock")) (.ref (He.ga K "BadSpace")) = some false),
  decide (PySem.W.kitOne K (.ref (He.ga K "BadClock")) (.ref (He.ga K "Misfit")) = some false),
  decide (PySem.W.kitOne K (.ref (He.ga K "BadRow")) (.ref (He.ga K "BadClock")) = some false),
  decide (PySem.W.kitOne K (.ref (He.ga K "BadRow")) (.ref (He.ga K "BadRow")) = some true),
  decide (PySem.W.kitOne K (.ref (He.ga K "BadRow")) (.ref (He.ga K "BadSpace")) = some false),
  decide (PySem.W.kitOne K (.ref (He.ga K "BadRow")) (.ref (He.ga K "Misfit")) = some false),
  decide (PySem.W.kitOne K (.ref (He.ga K "BadSpace")) (.ref (He.ga K "BadClock")) = some false),
  decide (PySem.W.kitOne K (.ref (He.ga K "BadSpace")) (.ref (He.ga K "BadRow")) = some false),
  decide (PySem.W.kitOne K (.ref (He.ga K "BadSpace")) (.ref (He.ga K "BadSpace")) = some true),
  decide (PySem.W.kitOne K (.ref (He.ga K "BadSpace")) (.ref (He.ga K "Misfit")) = some false),
  decide (PySem.W.kitOne K (.ref (He.ga K "Misfit")) (.ref (He.ga K "BadClock")) = some false),
  decide (PySem.W.kitOne K (.ref (He.ga K "Misfit")) (.ref (He.ga K "BadRow")) = some false),
  decide (PySem.W.kitOne K (.ref (He.ga K "Misfit")) (.ref (He.ga K "BadSpace")) = some false),
  decide (PySem.W.kitOne K (.ref (He.ga K "Misfit")) (.ref (He.ga K "Misfit")) = some true)]
def exB (K : PySem.W.Frag) : Bool := (exs K).all id
theorem ex_at {K : PySem.W.Frag} (h : exB K = true) (i : Nat) {b : Bool} (e : (exs K)[i]? = some b) : b = true := List.all_eq_true.mp h b (List.mem_of_getElem? e)
abbrev lawAt : He.Defn := ("law", none)
abbrev AlY : Type := (He.AlT × Bool) × List InW
/-- where the top's names, the defs' code objects, the classes' defs stand (found by a run of the head) -/
def adrs : List Addr := [3, 2, 6, 4, 24, 46, 67, 88, 109, 130, 151, 154, 161, 168, 175, 180, 187, 194, 201, 209, 216, 221, 226, 293, 302, 309, 314, 321, 326, 331, 338, 343, 348, 355, 362, 367, 404, 416, 423, 428, 433, 440, 445, 450, 457, 464, 469, 476, 483, 490, 497, 502, 507, 512, 519, 526, 531, 536, 541, 546, 553, 558, 563, 568, 573, 578, 0, 23, 45, 66, 87, 108, 129, 150, 160, 167, 174, 179, 186, 193, 200, 208, 202, 215, 220, 225, 292, 301, 308, 313, 320, 325, 330, 337, 342, 347, 354, 361, 366, 403, 415, 409, 422, 427, 432, 439, 444, 449, 456, 463, 468, 475, 482, 489, 496, 501, 506, 511, 518, 525, 530, 535, 540, 545, 552, 557, 562, 567, 572, 577, 22, 25, 43, 44, 64, 65, 85, 86, 106, 107, 127, 128, 148, 149, 381, 388, 396, 401, 402, 42, 31, 63, 52, 84, 73, 105, 94, 126, 115, 147, 136, 380, 386, 387, 395, 400]
def frY (g : Addr → Option Obj) : PySem.W.Frag := He.frT g adrs
def obsY (g : Addr → Option Obj) : AlY := ((He.obsT fas fns [] (frY g), exB (frY g) && He.tabsB g [lawAt] (frY g)), inits.map fun e => inW (frY g) e.1)
def valY (w : World) : AlY := ((He.valT fns [] w, true), inits.map fun e => inVal e.2.1 e.2.2)
/-- what the head tells -/
structure SaysY (w : World) (h : Heap) (K : PySem.W.Frag) : Prop where
  t : He.SaysT fas fns [] w K
  more : exB K = true
  hd : PySem.W.codeHdIn K (He.cT K lawAt).1 (He.cT K lawAt).2 = true
  out : K.lookup (He.cT K lawAt).2 = none
  empty : h.get? (He.cT K lawAt).2 = some { cls := .none, data := .fields #[] }
  ini : (inits.map fun e => inW K e.1) = inits.map fun e => inVal e.2.1 e.2.2
theorem saysY_of {w : World} {h : Heap} (e : obsY h.get? = valY w) : SaysY w h (frY h.get?) := by
  have e1 : He.obsT fas fns [] (frY h.get?) = He.valT fns [] w := congrArg (fun z : AlY => z.1.1) e
  have e2 : (exB (frY h.get?) && He.tabsB h.get? [lawAt] (frY h.get?)) = true := congrArg (fun z : AlY => z.1.2) e
  have e3 : (inits.map fun e => inW (frY h.get?) e.1) = inits.map fun e => inVal e.2.1 e.2.2 := congrArg (fun z : AlY => z.2) e
  obtain ⟨h1, h2⟩ := He.ba e2
  obtain ⟨h3, h4⟩ := He.ba (List.all_eq_true.mp h2 lawAt List.mem_cons_self)
  cases q : h.get? (He.cT (frY h.get?) lawAt).2 with
  | none =>
    rw [q] at h4
    cases h4
  | some o =>
    rw [q] at h4
    exact ⟨e1, h1, h3, He.frT_none q h4, by rw [q, He.emptyTab_eq h4], e3⟩
def hookY : PySem.W.Hook where
  α := AlY
  obs := fun s => obsY s.heap.get?
  val := fun w => valY w
  says := fun w h => ∃ K : PySem.W.Frag, K.In h ∧ SaysY w h K
  of := fun _ _ e => ⟨_, He.frT_in, saysY_of e⟩
  keeps := fun _ _ _ ⟨K, hK, c⟩ k => ⟨K, PySem.W.Frag.In.keeps hK k, ⟨c.t, c.more, c.hd, c.out, k _ _ c.empty, c.ini⟩⟩
def obY (s : PySem.W.SharedT) : AlY := obsY (HandSHeadRun.getT s)
theorem obY_eq (s : PySem.W.SharedT) : obY s = hookY.obs s.abs := by
  have e : HandSHeadRun.getT s = s.abs.heap.get? := funext (HandSHeadRun.getT_eq s)
  unfold obY
  rw [e] <;> rfl
theorem vals_rev {zs : List V} {ws : List Value} (h : Vals zs ws) : Vals zs.reverse ws.reverse := by
  induction h with
  | nil => exact .nil
  | cons a b ih =>
    rw [List.reverse_cons, List.reverse_cons]
    exact ih.append (.cons a .nil)
theorem facts {w : World} {K : PySem.W.Frag} {h : Heap} {mg : Str → Option Value} {f : Addr} (X : K.In h) (G : h.Ns mainGlobals mg) (hfa : mg ("law" : Str) = some (.ref f)) (c : SaysY w h K) :
    ∃ (fd : FuncData) (cL PL : Addr), h.get? PL = some { cls := .none, data := .fields #[] } ∧ K.lookup PL = none ∧ PySem.W.CodeHd h cL PL ∧ (∀ (s : Shared) (u : Value), BindsTo s fd ⟨[u], []⟩ [("_law_script", u)]) ∧
      ∀ base : Heap, K.In base → base.Ns mainGlobals mg → LamX.TabB base mg cL PL → FnG PP w K mg base CX0 15 f fd ["_law_script"] (sp_law K PL) := by
  have d := c.t.d
  have B : Bi mg := ⟨He.free_ok X G (x := "len") (d.fact 56 rfl), He.free_ok X G (x := "range") (d.fact 57 rfl), He.free_ok X G (x := "zip") (d.fact 58 rfl), He.free_ok X G (x := "enumerate") (d.fact 59 rfl), He.free_ok X G (x := "isinstance") (d.fact 60 rfl), He.free_ok X G (x := "all") (d.fact 61 rfl), He.free_ok X G (x := "sum") (d.fact 62 rfl), He.free_ok X G (x := "sorted") (d.fact 63 rfl), He.free_ok X G (x := "tuple") (d.fact 64 rfl), He.free_ok X G (x := "list") (d.fact 65 rfl), He.free_ok X G (x := "int") (d.fact 66 rfl), He.free_ok X G (x := "bool") (d.fact 67 rfl), He.free_ok X G (x := "abs") (d.fact 68 rfl), He.free_ok X G (x := "min") (d.fact 69 rfl), He.free_ok X G (x := "repr") (d.fact 70 rfl), He.free_ok X G (x := "super") (d.fact 71 rfl)⟩
  have Gl : Gs mg := ⟨He.int_ok X G (x := "MOST_SIZE") (d.fact 72 rfl), He.int_ok X G (x := "MOST_GIVEN") (d.fact 73 rfl), He.int_ok X G (x := "MOST_NAMES") (d.fact 74 rfl), He.int_ok X G (x := "MOST_GAPS_rims") (d.fact 75 rfl), He.int_ok X G (x := "LEAST_GAPS") (d.fact 76 rfl), He.int_ok X G (x := "MOST_GAPS_roped") (d.fact 77 rfl)⟩
  have T : Clk K mg := ⟨⟨_, (He.glo_ok X G (x := "CLOCKS") (d.fact 55 rfl)), fun H => He.tupB_ok (ex_at c.more 0 rfl) H⟩⟩
  have S : SpC K mg (He.ga K "Space") := ⟨(He.glo_ok X G (x := "Space") (d.fact 54 rfl)), He.cls_ok (d.fact 78 rfl), He.noat_ok (d.fact 79 rfl), He.noat_ok (d.fact 80 rfl), He.noat_ok (d.fact 81 rfl), He.noat_ok (d.fact 82 rfl)⟩
  have I : SpI K (He.ga K "Space") := ⟨He.cls_ok (d.fact 78 rfl), He.eqO_ok (ex_at c.more 1 rfl), He.eqO_ok (ex_at c.more 2 rfl), of_decide_eq_true (ex_at c.more 3 rfl), of_decide_eq_true (ex_at c.more 4 rfl)⟩
  have SN : SpN K (He.ga K "Space") := ⟨of_decide_eq_true (ex_at c.more 5 rfl), of_decide_eq_true (ex_at c.more 6 rfl), of_decide_eq_true (ex_at c.more 7 rfl), of_decide_eq_true (ex_at c.more 8 rfl), of_decide_eq_true (ex_at c.more 9 rfl)⟩
  have psu : (PP.main.scope.names.lookup ("super" : Str)).isSome = false := by kernel_rfl
  obtain ⟨x_BadClock, ec_BadClock, xf_BadClock⟩ := xtB_ok (P := PP) (i := 3) (p1 := pA (defArgs (eth 3)) 0) (p2 := pA (defArgs (eth 3)) 1) (q := pB (defBody (eth 3))) (ex_at c.more 10 rfl) (Option.some.inj (congrArg (fun l : List InW => l[0]?) c.ini)) (He.glo_ok X G (x := "BadClock") (d.fact 49 rfl)) B.super psu (by kernel_rfl) (by kernel_rfl) (by kernel_rfl) (by kernel_rfl)
  obtain ⟨x_BadRow, ec_BadRow, xf_BadRow⟩ := xtB_ok (P := PP) (i := 4) (p1 := pA (defArgs (eth 4)) 0) (p2 := pA (defArgs (eth 4)) 1) (q := pB (defBody (eth 4))) (ex_at c.more 11 rfl) (Option.some.inj (congrArg (fun l : List InW => l[1]?) c.ini)) (He.glo_ok X G (x := "BadRow") (d.fact 50 rfl)) B.super psu (by kernel_rfl) (by kernel_rfl) (by kernel_rfl) (by kernel_rfl)
  obtain ⟨x_BadSpace, ec_BadSpace, xf_BadSpace⟩ := xtB_ok (P := PP) (i := 5) (p1 := pA (defArgs (eth 5)) 0) (p2 := pA (defArgs (eth 5)) 1) (q := pB (defBody (eth 5))) (ex_at c.more 12 rfl) (Option.some.inj (congrArg (fun l : List InW => l[2]?) c.ini)) (He.glo_ok X G (x := "BadSpace") (d.fact 51 rfl)) B.super psu (by kernel_rfl) (by kernel_rfl) (by kernel_rfl) (by kernel_rfl)
  obtain ⟨x_Misfit, ec_Misfit, xf_Misfit⟩ := xtB_ok (P := PP) (i := 6) (p1 := pA (defArgs (eth 6)) 0) (p2 := pA (defArgs (eth 6)) 1) (q := pB (defBody (eth 6))) (ex_at c.more 13 rfl) (Option.some.inj (congrArg (fun l : List InW => l[3]?) c.ini)) (He.glo_ok X G (x := "Misfit") (d.fact 52 rfl)) B.super psu (by kernel_rfl) (by kernel_rfl) (by kernel_rfl) (by kernel_rfl)
  obtain ⟨Er, eEr⟩ : ∃ Er : Errs, Er = ⟨He.ga K "RopeError", He.ga K "BadClock", He.ga K "BadRow", He.ga K "BadSpace", He.ga K "Misfit"⟩ := ⟨_, rfl⟩
  have EF : ErrF K mg Er := by
    subst eEr
    exact ⟨(He.glo_ok X G (x := "RopeError") (d.fact 53 rfl)), (He.glo_ok X G (x := "BadClock") (d.fact 49 rfl)), (He.glo_ok X G (x := "BadRow") (d.fact 50 rfl)), (He.glo_ok X G (x := "BadSpace") (d.fact 51 rfl)), (He.glo_ok X G (x := "Misfit") (d.fact 52 rfl)),
      ⟨ec_BadClock, xf_BadClock, x_BadClock.noN, He.exm_ok (d.fact 85 rfl), of_decide_eq_true (ex_at c.more 14 rfl), of_decide_eq_true (ex_at c.more 15 rfl), of_decide_eq_true (ex_at c.more 16 rfl), of_decide_eq_true (ex_at c.more 17 rfl)⟩,
      ⟨ec_BadRow, xf_BadRow, x_BadRow.noN, He.exm_ok (d.fact 86 rfl), of_decide_eq_true (ex_at c.more 18 rfl), of_decide_eq_true (ex_at c.more 19 rfl), of_decide_eq_true (ex_at c.more 20 rfl), of_decide_eq_true (ex_at c.more 21 rfl)⟩,
      ⟨ec_BadSpace, xf_BadSpace, x_BadSpace.noN, He.exm_ok (d.fact 87 rfl), of_decide_eq_true (ex_at c.more 22 rfl), of_decide_eq_true (ex_at c.more 23 rfl), of_decide_eq_true (ex_at c.more 24 rfl), of_decide_eq_true (ex_at c.more 25 rfl)⟩,
      ⟨ec_Misfit, xf_Misfit, x_Misfit.noN, He.exm_ok (d.fact 88 rfl), of_decide_eq_true (ex_at c.more 26 rfl), of_decide_eq_true (ex_at c.more 27 rfl), of_decide_eq_true (ex_at c.more 28 rfl), of_decide_eq_true (ex_at c.more 29 rfl)⟩⟩
  have x_BadClock : ExTxt PP K mg "BadClock" "BadClock.__init__" Er.BadClock (iAd K "BadClock") := by
    subst eEr
    exact x_BadClock
  have x_BadRow : ExTxt PP K mg "BadRow" "BadRow.__init__" Er.BadRow (iAd K "BadRow") := by
    subst eEr
    exact x_BadRow
  have x_BadSpace : ExTxt PP K mg "BadSpace" "BadSpace.__init__" Er.BadSpace (iAd K "BadSpace") := by
    subst eEr
    exact x_BadSpace
  have x_Misfit : ExTxt PP K mg "Misfit" "Misfit.__init__" Er.Misfit (iAd K "Misfit") := by
    subst eEr
    exact x_Misfit
  clear eEr
  obtain ⟨C, eC⟩ : ∃ C, C = He.ga K "Space" := ⟨_, rfl⟩
  have mkS : Mk K C (He.ma K C "__init__") := by
    subst eC
    exact He.mkr_ok (d.fact 84 rfl)
  have meq : Meth K C "__eq__" (He.ma K C "__eq__") := by
    subst eC
    exact He.meth_ok (d.fact 83 rfl)
  obtain ⟨fd_init, F_init⟩ : ∃ fd, FunD K "__init__" "Space.__init__" (defArgs (mth 0)) (defBody (mth 0)) (defScope (mth 0)) [] [] (He.ma K C "__init__") fd := by
    subst eC
    exact d.def_ 49 (d := dMt "__init__" "Space.__init__" 0) rfl
  obtain ⟨fd_eq, F_eq⟩ : ∃ fd, FunD K "__eq__" "Space.__eq__" (defArgs (mth 2)) (defBody (mth 2)) (defScope (mth 2)) [] [] (He.ma K C "__eq__") fd := by
    subst eC
    exact d.def_ 50 (d := dMt "__eq__" "Space.__eq__" 2) rfl
  rw [← eC] at S I SN
  clear eC
  have g_is_integer := (He.glo_ok X G (x := "is_integer") (d.fact 0 rfl))
  obtain ⟨fd_is_integer, F_is_integer⟩ : ∃ fd, FnQ K "is_integer" (top 10) [] (He.ga K "is_integer") fd := d.def_ 0 (d := dOf "is_integer" 10 []) rfl
  have g_is_within := (He.glo_ok X G (x := "is_within") (d.fact 1 rfl))
  obtain ⟨fd_is_within, F_is_within⟩ : ∃ fd, FnQ K "is_within" (top 11) [] (He.ga K "is_within") fd := d.def_ 1 (d := dOf "is_within" 11 []) rfl
  have g_is_clock := (He.glo_ok X G (x := "is_clock") (d.fact 2 rfl))
  obtain ⟨fd_is_clock, F_is_clock⟩ : ∃ fd, FnQ K "is_clock" (top 12) [] (He.ga K "is_clock") fd := d.def_ 2 (d := dOf "is_clock" 12 []) rfl
  have g_is_row := (He.glo_ok X G (x := "is_row") (d.fact 3 rfl))
  obtain ⟨fd_is_row, F_is_row⟩ : ∃ fd, FnQ K "is_row" (top 13) [] (He.ga K "is_row") fd := d.def_ 3 (d := dOf "is_row" 13 []) rfl
  have g_inverse_in := (He.glo_ok X G (x := "inverse_in") (d.fact 4 rfl))
  obtain ⟨fd_inverse_in, F_inverse_in⟩ : ∃ fd, FnQ K "inverse_in" (top 20) [] (He.ga K "inverse_in") fd := d.def_ 4 (d := dOf "inverse_in" 20 []) rfl
  have g_times_in := (He.glo_ok X G (x := "times_in") (d.fact 5 rfl))
  obtain ⟨fd_times_in, F_times_in⟩ : ∃ fd, FnQ K "times_in" (top 21) [] (He.ga K "times_in") fd := d.def_ 5 (d := dOf "times_in" 21 []) rfl
  have g_lead_of := (He.glo_ok X G (x := "lead_of") (d.fact 6 rfl))
  obtain ⟨fd_lead_of, F_lead_of⟩ : ∃ fd, FnQ K "lead_of" (top 30) [] (He.ga K "lead_of") fd := d.def_ 6 (d := dOf "lead_of" 30 []) rfl
  have g_cleared := (He.glo_ok X G (x := "cleared") (d.fact 7 rfl))
  obtain ⟨fd_cleared, F_cleared⟩ : ∃ fd, FnQ K "cleared" (top 31) [] (He.ga K "cleared") fd := d.def_ 7 (d := dOf "cleared" 31 []) rfl
  have g_cleared_by := (He.glo_ok X G (x := "cleared_by") (d.fact 8 rfl))
  obtain ⟨fd_cleared_by, F_cleared_by⟩ : ∃ fd, FnQ K "cleared_by" (top 32) [] (He.ga K "cleared_by") fd := d.def_ 8 (d := dOf "cleared_by" 32 []) rfl
  have g_with_row := (He.glo_ok X G (x := "with_row") (d.fact 9 rfl))
  obtain ⟨fd_with_row, F_with_row⟩ : ∃ fd, FnQ K "with_row" (top 33) [] (He.ga K "with_row") fd := d.def_ 9 (d := dOf "with_row" 33 []) rfl
  have g_least_in := (He.glo_ok X G (x := "least_in") (d.fact 10 rfl))
  obtain ⟨fd_least_in, F_least_in⟩ : ∃ fd, FnQ K "least_in" (top 34) [] (He.ga K "least_in") fd := d.def_ 10 (d := dOf "least_in" 34 []) rfl
  have g_whites_in := (He.glo_ok X G (x := "whites_in") (d.fact 11 rfl))
  obtain ⟨fd_whites_in, F_whites_in⟩ : ∃ fd, FnQ K "whites_in" (top 53) [] (He.ga K "whites_in") fd := d.def_ 11 (d := dOf "whites_in" 53 []) rfl
  have g_blacks_in := (He.glo_ok X G (x := "blacks_in") (d.fact 12 rfl))
  obtain ⟨fd_blacks_in, F_blacks_in⟩ : ∃ fd, FnQ K "blacks_in" (top 54) [] (He.ga K "blacks_in") fd := d.def_ 12 (d := dOf "blacks_in" 54 []) rfl
  have g_with_whites := (He.glo_ok X G (x := "with_whites") (d.fact 13 rfl))
  obtain ⟨fd_with_whites, F_with_whites⟩ : ∃ fd, FnQ K "with_whites" (top 55) [] (He.ga K "with_whites") fd := d.def_ 13 (d := dOf "with_whites" 55 []) rfl
  have g_with_blacks := (He.glo_ok X G (x := "with_blacks") (d.fact 14 rfl))
  obtain ⟨fd_with_blacks, F_with_blacks⟩ : ∃ fd, FnQ K "with_blacks" (top 56) [] (He.ga K "with_blacks") fd := d.def_ 14 (d := dOf "with_blacks" 56 []) rfl
  have g_differences := (He.glo_ok X G (x := "differences") (d.fact 15 rfl))
  obtain ⟨fd_differences, F_differences⟩ : ∃ fd, FnQ K "differences" (top 47) [] (He.ga K "differences") fd := d.def_ 15 (d := dOf "differences" 47 []) rfl
  have g_swing_in := (He.glo_ok X G (x := "swing_in") (d.fact 16 rfl))
  obtain ⟨fd_swing_in, F_swing_in⟩ : ∃ fd, FnQ K "swing_in" (top 48) [] (He.ga K "swing_in") fd := d.def_ 16 (d := dOf "swing_in" 48 []) rfl
  have g_form_of := (He.glo_ok X G (x := "form_of") (d.fact 17 rfl))
  obtain ⟨fd_form_of, F_form_of⟩ : ∃ fd, FnQ K "form_of" (top 36) [] (He.ga K "form_of") fd := d.def_ 17 (d := dOf "form_of" 36 []) rfl
  have g_upright_rows := (He.glo_ok X G (x := "upright_rows") (d.fact 18 rfl))
  obtain ⟨fd_upright_rows, F_upright_rows⟩ : ∃ fd, FnQ K "upright_rows" (top 37) [] (He.ga K "upright_rows") fd := d.def_ 18 (d := dOf "upright_rows" 37 []) rfl
  have g_need_number := (He.glo_ok X G (x := "need_number") (d.fact 19 rfl))
  obtain ⟨fd_need_number, F_need_number⟩ : ∃ fd, FnQ K "need_number" (top 14) [] (He.ga K "need_number") fd := d.def_ 19 (d := dOf "need_number" 14 []) rfl
  have g_need_clock := (He.glo_ok X G (x := "need_clock") (d.fact 20 rfl))
  obtain ⟨fd_need_clock, F_need_clock⟩ : ∃ fd, FnQ K "need_clock" (top 15) [] (He.ga K "need_clock") fd := d.def_ 20 (d := dOf "need_clock" 15 []) rfl
  have g_need_row := (He.glo_ok X G (x := "need_row") (d.fact 21 rfl))
  obtain ⟨fd_need_row, F_need_row⟩ : ∃ fd, FnQ K "need_row" (top 16) [] (He.ga K "need_row") fd := d.def_ 21 (d := dOf "need_row" 16 []) rfl
  have g_need_sized := (He.glo_ok X G (x := "need_sized") (d.fact 22 rfl))
  obtain ⟨fd_need_sized, F_need_sized⟩ : ∃ fd, FnQ K "need_sized" (top 17) [.int 1] (He.ga K "need_sized") fd := d.def_ 22 (d := dOf "need_sized" 17 [.int 1]) rfl
  have g_need_space := (He.glo_ok X G (x := "need_space") (d.fact 23 rfl))
  obtain ⟨fd_need_space, F_need_space⟩ : ∃ fd, FnQ K "need_space" (top 42) [.str "space"] (He.ga K "need_space") fd := d.def_ 23 (d := dOf "need_space" 42 [.str "space"]) rfl
  have g_need_ring := (He.glo_ok X G (x := "need_ring") (d.fact 24 rfl))
  obtain ⟨fd_need_ring, F_need_ring⟩ : ∃ fd, FnQ K "need_ring" (top 58) [] (He.ga K "need_ring") fd := d.def_ 24 (d := dOf "need_ring" 58 []) rfl
  have g_need_rows := (He.glo_ok X G (x := "need_rows") (d.fact 25 rfl))
  obtain ⟨fd_need_rows, F_need_rows⟩ : ∃ fd, FnQ K "need_rows" (top 40) [] (He.ga K "need_rows") fd := d.def_ 25 (d := dOf "need_rows" 40 []) rfl
  have g_space_in := (He.glo_ok X G (x := "space_in") (d.fact 26 rfl))
  obtain ⟨fd_space_in, F_space_in⟩ : ∃ fd, FnQ K "space_in" (top 35) [] (He.ga K "space_in") fd := d.def_ 26 (d := dOf "space_in" 35 []) rfl
  have g_upright_in := (He.glo_ok X G (x := "upright_in") (d.fact 27 rfl))
  obtain ⟨fd_upright_in, F_upright_in⟩ : ∃ fd, FnQ K "upright_in" (top 38) [] (He.ga K "upright_in") fd := d.def_ 27 (d := dOf "upright_in" 38 []) rfl
  have g_upright := (He.glo_ok X G (x := "upright") (d.fact 28 rfl))
  obtain ⟨fd_upright, F_upright⟩ : ∃ fd, FnQ K "upright" (top 43) [] (He.ga K "upright") fd := d.def_ 28 (d := dOf "upright" 43 []) rfl
  have g_whites := (He.glo_ok X G (x := "whites") (d.fact 29 rfl))
  obtain ⟨fd_whites, F_whites⟩ : ∃ fd, FnQ K "whites" (top 60) [] (He.ga K "whites") fd := d.def_ 29 (d := dOf "whites" 60 []) rfl
  have g_blacks := (He.glo_ok X G (x := "blacks") (d.fact 30 rfl))
  obtain ⟨fd_blacks, F_blacks⟩ : ∃ fd, FnQ K "blacks" (top 61) [] (He.ga K "blacks") fd := d.def_ 30 (d := dOf "blacks" 61 []) rfl
  have g_fair_by := (He.glo_ok X G (x := "fair_by") (d.fact 31 rfl))
  obtain ⟨fd_fair_by, F_fair_by⟩ : ∃ fd, FnQ K "fair_by" (top 57) [] (He.ga K "fair_by") fd := d.def_ 31 (d := dOf "fair_by" 57 []) rfl
  have g_fair_of := (He.glo_ok X G (x := "fair_of") (d.fact 32 rfl))
  obtain ⟨fd_fair_of, F_fair_of⟩ : ∃ fd, FnQ K "fair_of" (top 59) [] (He.ga K "fair_of") fd := d.def_ 32 (d := dOf "fair_of" 59 []) rfl
  have g_white_space := (He.glo_ok X G (x := "white_space") (d.fact 33 rfl))
  obtain ⟨fd_white_space, F_white_space⟩ : ∃ fd, FnQ K "white_space" (top 62) [] (He.ga K "white_space") fd := d.def_ 33 (d := dOf "white_space" 62 []) rfl
  have g_black_space := (He.glo_ok X G (x := "black_space") (d.fact 34 rfl))
  obtain ⟨fd_black_space, F_black_space⟩ : ∃ fd, FnQ K "black_space" (top 63) [] (He.ga K "black_space") fd := d.def_ 34 (d := dOf "black_space" 63 []) rfl
  have g_swing := (He.glo_ok X G (x := "swing") (d.fact 35 rfl))
  obtain ⟨fd_swing, F_swing⟩ : ∃ fd, FnQ K "swing" (top 49) [] (He.ga K "swing") fd := d.def_ 35 (d := dOf "swing" 49 []) rfl
  have g__law_chessboard := (He.glo_ok X G (x := "_law_chessboard") (d.fact 36 rfl))
  obtain ⟨fd__law_chessboard, F__law_chessboard⟩ : ∃ fd, FnQ K "_law_chessboard" (top 65) [] (He.ga K "_law_chessboard") fd := d.def_ 36 (d := dOf "_law_chessboard" 65 []) rfl
  have g__law_square := (He.glo_ok X G (x := "_law_square") (d.fact 37 rfl))
  obtain ⟨fd__law_square, F__law_square⟩ : ∃ fd, FnQ K "_law_square" (top 66) [] (He.ga K "_law_square") fd := d.def_ 37 (d := dOf "_law_square" 66 []) rfl
  have g__law_pick := (He.glo_ok X G (x := "_law_pick") (d.fact 38 rfl))
  obtain ⟨fd__law_pick, F__law_pick⟩ : ∃ fd, FnQ K "_law_pick" (top 67) [] (He.ga K "_law_pick") fd := d.def_ 38 (d := dOf "_law_pick" 67 []) rfl
  have g__law_less := (He.glo_ok X G (x := "_law_less") (d.fact 39 rfl))
  obtain ⟨fd__law_less, F__law_less⟩ : ∃ fd, FnQ K "_law_less" (top 68) [] (He.ga K "_law_less") fd := d.def_ 39 (d := dOf "_law_less" 68 []) rfl
  have g__law_whites := (He.glo_ok X G (x := "_law_whites") (d.fact 40 rfl))
  obtain ⟨fd__law_whites, F__law_whites⟩ : ∃ fd, FnQ K "_law_whites" (top 73) [] (He.ga K "_law_whites") fd := d.def_ 40 (d := dOf "_law_whites" 73 []) rfl
  have g__law_blacks := (He.glo_ok X G (x := "_law_blacks") (d.fact 41 rfl))
  obtain ⟨fd__law_blacks, F__law_blacks⟩ : ∃ fd, FnQ K "_law_blacks" (top 74) [] (He.ga K "_law_blacks") fd := d.def_ 41 (d := dOf "_law_blacks" 74 []) rfl
  have g__law_least := (He.glo_ok X G (x := "_law_least") (d.fact 42 rfl))
  obtain ⟨fd__law_least, F__law_least⟩ : ∃ fd, FnQ K "_law_least" (top 69) [] (He.ga K "_law_least") fd := d.def_ 42 (d := dOf "_law_least" 69 []) rfl
  have g__law_upright := (He.glo_ok X G (x := "_law_upright") (d.fact 43 rfl))
  obtain ⟨fd__law_upright, F__law_upright⟩ : ∃ fd, FnQ K "_law_upright" (top 70) [] (He.ga K "_law_upright") fd := d.def_ 43 (d := dOf "_law_upright" 70 []) rfl
  have g__law_fair := (He.glo_ok X G (x := "_law_fair") (d.fact 44 rfl))
  obtain ⟨fd__law_fair, F__law_fair⟩ : ∃ fd, FnQ K "_law_fair" (top 71) [] (He.ga K "_law_fair") fd := d.def_ 44 (d := dOf "_law_fair" 71 []) rfl
  have g__law_rows := (He.glo_ok X G (x := "_law_rows") (d.fact 45 rfl))
  obtain ⟨fd__law_rows, F__law_rows⟩ : ∃ fd, FnQ K "_law_rows" (top 75) [] (He.ga K "_law_rows") fd := d.def_ 45 (d := dOf "_law_rows" 75 []) rfl
  have g__law_heard := (He.glo_ok X G (x := "_law_heard") (d.fact 46 rfl))
  obtain ⟨fd__law_heard, F__law_heard⟩ : ∃ fd, FnQ K "_law_heard" (top 72) [] (He.ga K "_law_heard") fd := d.def_ 46 (d := dOf "_law_heard" 72 []) rfl
  have g__law_spaces_right := (He.glo_ok X G (x := "_law_spaces_right") (d.fact 47 rfl))
  obtain ⟨fd__law_spaces_right, F__law_spaces_right⟩ : ∃ fd, FnQ K "_law_spaces_right" (top 76) [] (He.ga K "_law_spaces_right") fd := d.def_ 47 (d := dOf "_law_spaces_right" 76 []) rfl
  have g_law := (He.glo_ok X G (x := "law") (d.fact 48 rfl))
  obtain ⟨fd_law, F_law⟩ : ∃ fd, FnQ K "law" (top 77) [] (He.ga K "law") fd := d.def_ 48 (d := dOf "law" 77 []) rfl
  have cod : ∃ a, fd_law.code = .ref a ∧ He.codeOf K lawAt = a := by
    obtain ⟨oc, od, dV, kV, doc, pm, an, cdv, ct, osl, e, lk, hcd, _⟩ := F_law.ex
    obtain ⟨a, ea⟩ := He.codeIn_ref hcd
    have e2 : fd_law.code = .ref a := by
      rw [e]
      exact ea
    exact ⟨a, e2, He.codeOf_eq (p := lawAt) lk e2⟩
  obtain ⟨cL, hcdL, ecL⟩ := cod
  have chd := PySem.W.codeHd_of_K X c.hd
  rw [show (He.cT K lawAt).1 = cL from ecL] at chd
  obtain rfl : f = He.ga K "law" := by
    have e := hfa.symm.trans g_law
    cases e
    rfl
  refine ⟨fd_law, cL, (He.cT K lawAt).2, c.empty, c.out, chd, fun s u => F_law.bindsA (ps := ["_law_script"]) (fun _ _ _ _ _ _ us hl => match us, hl with | [_], _ => rfl) s [u] rfl, fun base _ _ TB => ?_⟩
  have ok_is_integer' : FnOk PP w K mg base CX0 1 (He.ga K "is_integer") fd_is_integer ["value"] (sp_is_integer K) := ok_is_integer B F_is_integer
  have c_is_integer : Cal PP w K mg base CX0 1 "is_integer" ["value"] [] (sp_is_integer K) := Cal.of g_is_integer F_is_integer.kp ok_is_integer' (F_is_integer.bindsN fun _ _ _ _ _ _ us hl => match us, hl with | [_], _ => rfl)
  have ok_is_within' : FnOk PP w K mg base CX0 2 (He.ga K "is_within") fd_is_within ["value", "least", "most"] (sp_is_within K) := ok_is_within c_is_integer F_is_within
  have c_is_within : Cal PP w K mg base CX0 2 "is_within" ["value", "least", "most"] [] (sp_is_within K) := Cal.of g_is_within F_is_within.kp ok_is_within' (F_is_within.bindsN fun _ _ _ _ _ _ us hl => match us, hl with | [_, _, _], _ => rfl)
  have ok_is_clock' : FnOk PP w K mg base CX0 2 (He.ga K "is_clock") fd_is_clock ["value"] (sp_is_clock K) := ok_is_clock c_is_integer T F_is_clock
  have c_is_clock : Cal PP w K mg base CX0 2 "is_clock" ["value"] [] (sp_is_clock K) := Cal.of g_is_clock F_is_clock.kp ok_is_clock' (F_is_clock.bindsN fun _ _ _ _ _ _ us hl => match us, hl with | [_], _ => rfl)
  have ok_is_row' : FnOk PP w K mg base CX0 3 (He.ga K "is_row") fd_is_row ["value", "clock", "size"] (sp_is_row K) := ok_is_row B c_is_within F_is_row
  have c_is_row : Cal PP w K mg base CX0 3 "is_row" ["value", "clock", "size"] [] (sp_is_row K) := Cal.of g_is_row F_is_row.kp ok_is_row' (F_is_row.bindsN fun _ _ _ _ _ _ us hl => match us, hl with | [_, _, _], _ => rfl)
  have ok_inverse_in' : FnOk PP w K mg base CX0 1 (He.ga K "inverse_in") fd_inverse_in ["clock", "number"] sp_inverse_in := ok_inverse_in  F_inverse_in
  have c_inverse_in : Cal PP w K mg base CX0 1 "inverse_in" ["clock", "number"] [] sp_inverse_in := Cal.of g_inverse_in F_inverse_in.kp ok_inverse_in' (F_inverse_in.bindsN fun _ _ _ _ _ _ us hl => match us, hl with | [_, _], _ => rfl)
  have ok_times_in' : FnOk PP w K mg base CX0 1 (He.ga K "times_in") fd_times_in ["clock", "number", "row"] (sp_times_in K) := ok_times_in B F_times_in
  have c_times_in : Cal PP w K mg base CX0 1 "times_in" ["clock", "number", "row"] [] (sp_times_in K) := Cal.of g_times_in F_times_in.kp ok_times_in' (F_times_in.bindsN fun _ _ _ _ _ _ us hl => match us, hl with | [_, _, _], _ => rfl)
  have ok_lead_of' : FnOk PP w K mg base CX0 1 (He.ga K "lead_of") fd_lead_of ["row"] (sp_lead_of K) := ok_lead_of B F_lead_of
  have c_lead_of : Cal PP w K mg base CX0 1 "lead_of" ["row"] [] (sp_lead_of K) := Cal.of g_lead_of F_lead_of.kp ok_lead_of' (F_lead_of.bindsN fun _ _ _ _ _ _ us hl => match us, hl with | [_], _ => rfl)
  have ok_cleared' : FnOk PP w K mg base CX0 1 (He.ga K "cleared") fd_cleared ["clock", "row", "by", "at"] (sp_cleared K) := ok_cleared B F_cleared
  have c_cleared : Cal PP w K mg base CX0 1 "cleared" ["clock", "row", "by", "at"] [] (sp_cleared K) := Cal.of g_cleared F_cleared.kp ok_cleared' (F_cleared.bindsN fun _ _ _ _ _ _ us hl => match us, hl with | [_, _, _, _], _ => rfl)
  have ok_cleared_by' : FnOk PP w K mg base CX0 2 (He.ga K "cleared_by") fd_cleared_by ["clock", "row", "form"] (sp_cleared_by K) := ok_cleared_by c_cleared F_cleared_by
  have c_cleared_by : Cal PP w K mg base CX0 2 "cleared_by" ["clock", "row", "form"] [] (sp_cleared_by K) := Cal.of g_cleared_by F_cleared_by.kp ok_cleared_by' (F_cleared_by.bindsN fun _ _ _ _ _ _ us hl => match us, hl with | [_, _, _], _ => rfl)
  have ok_with_row' : FnOk PP w K mg base CX0 3 (He.ga K "with_row") fd_with_row ["clock", "form", "row"] (sp_with_row K) := ok_with_row B c_cleared c_cleared_by c_inverse_in c_lead_of c_times_in F_with_row
  have c_with_row : Cal PP w K mg base CX0 3 "with_row" ["clock", "form", "row"] [] (sp_with_row K) := Cal.of g_with_row F_with_row.kp ok_with_row' (F_with_row.bindsN fun _ _ _ _ _ _ us hl => match us, hl with | [_, _, _], _ => rfl)
  have ok_least_in' : FnOk PP w K mg base CX0 4 (He.ga K "least_in") fd_least_in ["clock", "rows"] (sp_least_in K) := ok_least_in B c_with_row F_least_in
  have c_least_in : Cal PP w K mg base CX0 4 "least_in" ["clock", "rows"] [] (sp_least_in K) := Cal.of g_least_in F_least_in.kp ok_least_in' (F_least_in.bindsN fun _ _ _ _ _ _ us hl => match us, hl with | [_, _], _ => rfl)
  have ok_whites_in' : FnOk PP w K mg base CX0 1 (He.ga K "whites_in") fd_whites_in ["clock", "row"] (sp_whites_in K) := ok_whites_in B F_whites_in
  have c_whites_in : Cal PP w K mg base CX0 1 "whites_in" ["clock", "row"] [] (sp_whites_in K) := Cal.of g_whites_in F_whites_in.kp ok_whites_in' (F_whites_in.bindsN fun _ _ _ _ _ _ us hl => match us, hl with | [_, _], _ => rfl)
  have ok_blacks_in' : FnOk PP w K mg base CX0 1 (He.ga K "blacks_in") fd_blacks_in ["clock", "row"] (sp_blacks_in K) := ok_blacks_in B F_blacks_in
  have c_blacks_in : Cal PP w K mg base CX0 1 "blacks_in" ["clock", "row"] [] (sp_blacks_in K) := Cal.of g_blacks_in F_blacks_in.kp ok_blacks_in' (F_blacks_in.bindsN fun _ _ _ _ _ _ us hl => match us, hl with | [_, _], _ => rfl)
  have ok_with_whites' : FnOk PP w K mg base CX0 1 (He.ga K "with_whites") fd_with_whites ["whites"] (sp_with_whites K) := ok_with_whites  F_with_whites
  have c_with_whites : Cal PP w K mg base CX0 1 "with_whites" ["whites"] [] (sp_with_whites K) := Cal.of g_with_whites F_with_whites.kp ok_with_whites' (F_with_whites.bindsN fun _ _ _ _ _ _ us hl => match us, hl with | [_], _ => rfl)
  have ok_with_blacks' : FnOk PP w K mg base CX0 1 (He.ga K "with_blacks") fd_with_blacks ["clock", "blacks"] (sp_with_blacks K) := ok_with_blacks  F_with_blacks
  have c_with_blacks : Cal PP w K mg base CX0 1 "with_blacks" ["clock", "blacks"] [] (sp_with_blacks K) := Cal.of g_with_blacks F_with_blacks.kp ok_with_blacks' (F_with_blacks.bindsN fun _ _ _ _ _ _ us hl => match us, hl with | [_, _], _ => rfl)
  have ok_differences' : FnOk PP w K mg base CX0 1 (He.ga K "differences") fd_differences ["clock", "row"] (sp_differences K) := ok_differences B F_differences
  have c_differences : Cal PP w K mg base CX0 1 "differences" ["clock", "row"] [] (sp_differences K) := Cal.of g_differences F_differences.kp ok_differences' (F_differences.bindsN fun _ _ _ _ _ _ us hl => match us, hl with | [_, _], _ => rfl)
  have ok_swing_in' : FnOk PP w K mg base CX0 2 (He.ga K "swing_in") fd_swing_in ["clock", "one", "other"] (sp_swing_in K) := ok_swing_in B c_differences F_swing_in
  have c_swing_in : Cal PP w K mg base CX0 2 "swing_in" ["clock", "one", "other"] [] (sp_swing_in K) := Cal.of g_swing_in F_swing_in.kp ok_swing_in' (F_swing_in.bindsN fun _ _ _ _ _ _ us hl => match us, hl with | [_, _, _], _ => rfl)
  have ok_form_of' : FnOk PP w K mg base CX0 2 (He.ga K "form_of") fd_form_of ["space"] (sp_form_of K C) := ok_form_of S c_lead_of F_form_of
  have c_form_of : Cal PP w K mg base CX0 2 "form_of" ["space"] [] (sp_form_of K C) := Cal.of g_form_of F_form_of.kp ok_form_of' (F_form_of.bindsN fun _ _ _ _ _ _ us hl => match us, hl with | [_], _ => rfl)
  have ok_upright_rows' : FnOk PP w K mg base CX0 3 (He.ga K "upright_rows") fd_upright_rows ["space"] (sp_upright_rows K C) := ok_upright_rows B S c_form_of F_upright_rows
  have c_upright_rows : Cal PP w K mg base CX0 3 "upright_rows" ["space"] [] (sp_upright_rows K C) := Cal.of g_upright_rows F_upright_rows.kp ok_upright_rows' (F_upright_rows.bindsN fun _ _ _ _ _ _ us hl => match us, hl with | [_], _ => rfl)
  have ok_need_number' : FnOk PP w K mg base CX0 3 (He.ga K "need_number") fd_need_number ["value", "part", "least", "most"] (sp_need_number K) := ok_need_number c_is_within F_need_number
  have c_need_number : Cal PP w K mg base CX0 3 "need_number" ["value", "part", "least", "most"] [] (sp_need_number K) := Cal.of g_need_number F_need_number.kp ok_need_number' (F_need_number.bindsN fun _ _ _ _ _ _ us hl => match us, hl with | [_, _, _, _], _ => rfl)
  have ok_need_clock' : FnOk PP w K mg base (L2.CX PP w) 3 (He.ga K "need_clock") fd_need_clock ["value"] (sp_need_clock K Er.BadClock) := ok_need_clock x_BadClock c_is_clock F_need_clock
  have c_need_clock : Cal PP w K mg base (L2.CX PP w) 3 "need_clock" ["value"] [] (sp_need_clock K Er.BadClock) := Cal.of g_need_clock F_need_clock.kp ok_need_clock' (F_need_clock.bindsN fun _ _ _ _ _ _ us hl => match us, hl with | [_], _ => rfl)
  have ok_need_row' : FnOk PP w K mg base (L2.CX PP w) 4 (He.ga K "need_row") fd_need_row ["value", "clock", "size", "part"] (sp_need_row K Er.BadRow) := ok_need_row B x_BadRow c_is_row F_need_row
  have c_need_row : Cal PP w K mg base (L2.CX PP w) 4 "need_row" ["value", "clock", "size", "part"] [] (sp_need_row K Er.BadRow) := Cal.of g_need_row F_need_row.kp ok_need_row' (F_need_row.bindsN fun _ _ _ _ _ _ us hl => match us, hl with | [_, _, _, _], _ => rfl)
  obtain ⟨ds_need_sized, r_need_sized, b_need_sized⟩ := F_need_sized.binds1 (ps := ["value", "clock", "part", "least", "most", "step"]) 6 1 (by decide) rfl fun _ _ _ _ _ _ _ us its h1 h2 => match us, its, h1, h2 with | [_, _, _, _, _, _], [_], _, _ => ⟨_, rfl, rfl⟩
  have c_need_sized : Cal PP w K mg base (L2.CX PP w) 5 "need_sized" ["value", "clock", "part", "least", "most", "step"] [] (sp_need_sized K Er.BadRow) := ⟨_, fd_need_sized, ds_need_sized, g_need_sized, F_need_sized.kp, ok_need_sized B x_BadRow c_need_row F_need_sized, b_need_sized, r_need_sized⟩
  obtain ⟨ds_need_space, r_need_space, b_need_space⟩ := F_need_space.binds1 (ps := ["value", "part"]) 1 0 (by decide) rfl fun _ _ _ _ _ _ _ us its h1 h2 => match us, its, h1, h2 with | [_], [_], _, _ => ⟨_, rfl, rfl⟩
  have c_need_space : Cal PP w K mg base (L2.CX PP w) 1 "need_space" ["value", "part"] [.str "space"] (sp_need_space K C Er.BadSpace) := ⟨_, fd_need_space, ds_need_space, g_need_space, F_need_space.kp, ok_need_space B S x_BadSpace F_need_space, b_need_space, r_need_space⟩
  have ok_need_ring' : FnOk PP w K mg base (L2.CX PP w) 2 (He.ga K "need_ring") fd_need_ring ["space"] (sp_need_ring K C Er.BadSpace Er.Misfit) := ok_need_ring B S I Gl x_Misfit c_need_space F_need_ring
  have c_need_ring : Cal PP w K mg base (L2.CX PP w) 2 "need_ring" ["space"] [] (sp_need_ring K C Er.BadSpace Er.Misfit) := Cal.of g_need_ring F_need_ring.kp ok_need_ring' (F_need_ring.bindsN fun _ _ _ _ _ _ us hl => match us, hl with | [_], _ => rfl)
  have ok_need_rows' : FnOk PP w K mg base CX0 4 (He.ga K "need_rows") fd_need_rows ["value", "clock", "size"] (sp_need_rows K) := ok_need_rows B Gl c_is_row F_need_rows
  have c_need_rows : Cal PP w K mg base CX0 4 "need_rows" ["value", "clock", "size"] [] (sp_need_rows K) := Cal.of g_need_rows F_need_rows.kp ok_need_rows' (F_need_rows.bindsN fun _ _ _ _ _ _ us hl => match us, hl with | [_, _, _], _ => rfl)
  have m_Space : SpM PP w K mg base C := ⟨S.gC, _, fd_init, mkS, ok_init B Gl S c_need_clock c_need_number c_least_in c_need_rows F_init, (F_init.bindsN fun _ _ _ _ _ _ us hl => match us, hl with | [_, _, _, _], _ => rfl)⟩
  have ok_space_in' : FnOk PP w K mg base CX0 7 (He.ga K "space_in") fd_space_in ["clock", "size", "rows"] (sp_space_in K C) := ok_space_in m_Space c_least_in F_space_in
  have c_space_in : Cal PP w K mg base CX0 7 "space_in" ["clock", "size", "rows"] [] (sp_space_in K C) := Cal.of g_space_in F_space_in.kp ok_space_in' (F_space_in.bindsN fun _ _ _ _ _ _ us hl => match us, hl with | [_, _, _], _ => rfl)
  have ok_upright_in' : FnOk PP w K mg base CX0 8 (He.ga K "upright_in") fd_upright_in ["space"] (sp_upright K C) := ok_upright_in S c_space_in c_upright_rows F_upright_in
  have c_upright_in : Cal PP w K mg base CX0 8 "upright_in" ["space"] [] (sp_upright K C) := Cal.of g_upright_in F_upright_in.kp ok_upright_in' (F_upright_in.bindsN fun _ _ _ _ _ _ us hl => match us, hl with | [_], _ => rfl)
  have ok_upright' : FnOk PP w K mg base CX0 9 (He.ga K "upright") fd_upright ["space"] (sp_upright K C) := ok_upright S I c_need_space c_upright_in F_upright
  have c_upright : Cal PP w K mg base CX0 9 "upright" ["space"] [] (sp_upright K C) := Cal.of g_upright F_upright.kp ok_upright' (F_upright.bindsN fun _ _ _ _ _ _ us hl => match us, hl with | [_], _ => rfl)
  have ok_whites' : FnOk PP w K mg base (L2.CX PP w) 6 (He.ga K "whites") fd_whites ["clock", "row"] (sp_rowf K Er.BadClock Er.BadRow whitesOf) := ok_whites Gl c_need_clock c_need_sized c_whites_in F_whites
  have c_whites : Cal PP w K mg base (L2.CX PP w) 6 "whites" ["clock", "row"] [] (sp_rowf K Er.BadClock Er.BadRow whitesOf) := Cal.of g_whites F_whites.kp ok_whites' (F_whites.bindsN fun _ _ _ _ _ _ us hl => match us, hl with | [_, _], _ => rfl)
  have k_whites : CalK PP w K mg base (L2.CX PP w) 6 "whites" ["clock", "row"] ["row", "clock"] (fun _ zs => zs.reverse) (sp_rowf K Er.BadClock Er.BadRow whitesOf) := ⟨_, fd_whites, _, g_whites, F_whites.kp, ok_whites', kbn0 F_whites (fun zs => zs.reverse) (fun h => vals_rev h) fun _ _ _ _ _ _ ws hl => match ws, hl with | [_, _], _ => rfl⟩
  have ok_blacks' : FnOk PP w K mg base (L2.CX PP w) 6 (He.ga K "blacks") fd_blacks ["clock", "row"] (sp_rowf K Er.BadClock Er.BadRow blacksOf) := ok_blacks Gl c_need_clock c_need_sized c_blacks_in F_blacks
  have c_blacks : Cal PP w K mg base (L2.CX PP w) 6 "blacks" ["clock", "row"] [] (sp_rowf K Er.BadClock Er.BadRow blacksOf) := Cal.of g_blacks F_blacks.kp ok_blacks' (F_blacks.bindsN fun _ _ _ _ _ _ us hl => match us, hl with | [_, _], _ => rfl)
  have k_blacks : CalK PP w K mg base (L2.CX PP w) 6 "blacks" ["clock", "row"] ["row", "clock"] (fun _ zs => zs.reverse) (sp_rowf K Er.BadClock Er.BadRow blacksOf) := ⟨_, fd_blacks, _, g_blacks, F_blacks.kp, ok_blacks', kbn0 F_blacks (fun zs => zs.reverse) (fun h => vals_rev h) fun _ _ _ _ _ _ ws hl => match ws, hl with | [_, _], _ => rfl⟩
  have ok_fair_by' : FnOk PP w K mg base CX0 10 (He.ga K "fair_by") fd_fair_by ["space"] (sp_fair_by K C) := ok_fair_by B S m_Space c_upright c_with_whites c_with_blacks F_fair_by
  have c_fair_by : Cal PP w K mg base CX0 10 "fair_by" ["space"] [] (sp_fair_by K C) := Cal.of g_fair_by F_fair_by.kp ok_fair_by' (F_fair_by.bindsN fun _ _ _ _ _ _ us hl => match us, hl with | [_], _ => rfl)
  have ok_fair_of' : FnOk PP w K mg base (L2.CX PP w) 11 (He.ga K "fair_of") fd_fair_of ["space"] (sp_fair_of K C Er.BadSpace Er.Misfit) := ok_fair_of S I Gl x_Misfit c_need_space c_fair_by F_fair_of
  have c_fair_of : Cal PP w K mg base (L2.CX PP w) 11 "fair_of" ["space"] [] (sp_fair_of K C Er.BadSpace Er.Misfit) := Cal.of g_fair_of F_fair_of.kp ok_fair_of' (F_fair_of.bindsN fun _ _ _ _ _ _ us hl => match us, hl with | [_], _ => rfl)
  have k_fair_of : CalK PP w K mg base (L2.CX PP w) 11 "fair_of" ["space"] ["space"] (fun _ zs => zs) (sp_fair_of K C Er.BadSpace Er.Misfit) := ⟨_, fd_fair_of, _, g_fair_of, F_fair_of.kp, ok_fair_of', kbn0 F_fair_of (fun zs => zs) (fun h => h) fun _ _ _ _ _ _ ws hl => match ws, hl with | [_], _ => rfl⟩
  have ok_white_space' : FnOk PP w K mg base (L2.CX PP w) 7 (He.ga K "white_space") fd_white_space ["space"] (sp_half K C Er.BadSpace Er.Misfit whitesOf) := ok_white_space S m_Space c_need_ring c_whites_in F_white_space
  have c_white_space : Cal PP w K mg base (L2.CX PP w) 7 "white_space" ["space"] [] (sp_half K C Er.BadSpace Er.Misfit whitesOf) := Cal.of g_white_space F_white_space.kp ok_white_space' (F_white_space.bindsN fun _ _ _ _ _ _ us hl => match us, hl with | [_], _ => rfl)
  have k_white_space : CalK PP w K mg base (L2.CX PP w) 7 "white_space" ["space"] ["space"] (fun _ zs => zs) (sp_half K C Er.BadSpace Er.Misfit whitesOf) := ⟨_, fd_white_space, _, g_white_space, F_white_space.kp, ok_white_space', kbn0 F_white_space (fun zs => zs) (fun h => h) fun _ _ _ _ _ _ ws hl => match ws, hl with | [_], _ => rfl⟩
  have ok_black_space' : FnOk PP w K mg base (L2.CX PP w) 7 (He.ga K "black_space") fd_black_space ["space"] (sp_half K C Er.BadSpace Er.Misfit blacksOf) := ok_black_space S m_Space c_need_ring c_blacks_in F_black_space
  have c_black_space : Cal PP w K mg base (L2.CX PP w) 7 "black_space" ["space"] [] (sp_half K C Er.BadSpace Er.Misfit blacksOf) := Cal.of g_black_space F_black_space.kp ok_black_space' (F_black_space.bindsN fun _ _ _ _ _ _ us hl => match us, hl with | [_], _ => rfl)
  have k_black_space : CalK PP w K mg base (L2.CX PP w) 7 "black_space" ["space"] ["space"] (fun _ zs => zs) (sp_half K C Er.BadSpace Er.Misfit blacksOf) := ⟨_, fd_black_space, _, g_black_space, F_black_space.kp, ok_black_space', kbn0 F_black_space (fun zs => zs) (fun h => h) fun _ _ _ _ _ _ ws hl => match ws, hl with | [_], _ => rfl⟩
  have ok_swing' : FnOk PP w K mg base CX0 6 (He.ga K "swing") fd_swing ["clock", "one", "other"] (sp_swing K) := ok_swing B Gl c_need_clock c_need_sized c_swing_in F_swing
  have c_swing : Cal PP w K mg base CX0 6 "swing" ["clock", "one", "other"] [] (sp_swing K) := Cal.of g_swing F_swing.kp ok_swing' (F_swing.bindsN fun _ _ _ _ _ _ us hl => match us, hl with | [_, _, _], _ => rfl)
  have ok__law_chessboard' : FnOk PP w K mg base CX0 1 (He.ga K "_law_chessboard") fd__law_chessboard ["_law_script"] (sp_chessboard K) := ok_chessboard B F__law_chessboard
  have c__law_chessboard : Cal PP w K mg base CX0 1 "_law_chessboard" ["_law_script"] [] (sp_chessboard K) := Cal.of g__law_chessboard F__law_chessboard.kp ok__law_chessboard' (F__law_chessboard.bindsN fun _ _ _ _ _ _ us hl => match us, hl with | [_], _ => rfl)
  have ok__law_square' : FnOk PP w K mg base CX0 1 (He.ga K "_law_square") fd__law_square ["_law_chessboard_here", "_law_many"] (sp_square K) := ok_square B F__law_square
  have c__law_square : Cal PP w K mg base CX0 1 "_law_square" ["_law_chessboard_here", "_law_many"] [] (sp_square K) := Cal.of g__law_square F__law_square.kp ok__law_square' (F__law_square.bindsN fun _ _ _ _ _ _ us hl => match us, hl with | [_, _], _ => rfl)
  have ok__law_pick' : FnOk PP w K mg base CX0 2 (He.ga K "_law_pick") fd__law_pick ["_law_chessboard_here", "_law_some"] (sp_pick K) := ok_pick B c__law_square F__law_pick
  have c__law_pick : Cal PP w K mg base CX0 2 "_law_pick" ["_law_chessboard_here", "_law_some"] [] (sp_pick K) := Cal.of g__law_pick F__law_pick.kp ok__law_pick' (F__law_pick.bindsN fun _ _ _ _ _ _ us hl => match us, hl with | [_, _], _ => rfl)
  have ok__law_less' : FnOk PP w K mg base CX0 1 (He.ga K "_law_less") fd__law_less ["_law_clock", "_law_row", "_law_lead", "_law_place"] (sp_less K) := ok_less B F__law_less
  have c__law_less : Cal PP w K mg base CX0 1 "_law_less" ["_law_clock", "_law_row", "_law_lead", "_law_place"] [] (sp_less K) := Cal.of g__law_less F__law_less.kp ok__law_less' (F__law_less.bindsN fun _ _ _ _ _ _ us hl => match us, hl with | [_, _, _, _], _ => rfl)
  have ok__law_whites' : FnOk PP w K mg base CX0 1 (He.ga K "_law_whites") fd__law_whites ["_law_clock", "_law_row"] (sp_Lrowf K whitesOf) := ok_Lwhites B F__law_whites
  have c__law_whites : Cal PP w K mg base CX0 1 "_law_whites" ["_law_clock", "_law_row"] [] (sp_Lrowf K whitesOf) := Cal.of g__law_whites F__law_whites.kp ok__law_whites' (F__law_whites.bindsN fun _ _ _ _ _ _ us hl => match us, hl with | [_, _], _ => rfl)
  have ok__law_blacks' : FnOk PP w K mg base CX0 1 (He.ga K "_law_blacks") fd__law_blacks ["_law_clock", "_law_row"] (sp_Lrowf K blacksOf) := ok_Lblacks B F__law_blacks
  have c__law_blacks : Cal PP w K mg base CX0 1 "_law_blacks" ["_law_clock", "_law_row"] [] (sp_Lrowf K blacksOf) := Cal.of g__law_blacks F__law_blacks.kp ok__law_blacks' (F__law_blacks.bindsN fun _ _ _ _ _ _ us hl => match us, hl with | [_, _], _ => rfl)
  have ok__law_least' : FnOk PP w K mg base CX0 2 (He.ga K "_law_least") fd__law_least ["_law_clock", "_law_rows_here"] (sp_Lleast K) := ok_Lleast B c__law_less F__law_least
  have c__law_least : Cal PP w K mg base CX0 2 "_law_least" ["_law_clock", "_law_rows_here"] [] (sp_Lleast K) := Cal.of g__law_least F__law_least.kp ok__law_least' (F__law_least.bindsN fun _ _ _ _ _ _ us hl => match us, hl with | [_, _], _ => rfl)
  have ok__law_upright' : FnOk PP w K mg base CX0 3 (He.ga K "_law_upright") fd__law_upright ["_law_clock", "_law_size", "_law_rows_here"] (sp_Lupright K) := ok_Lupright B c__law_least F__law_upright
  have c__law_upright : Cal PP w K mg base CX0 3 "_law_upright" ["_law_clock", "_law_size", "_law_rows_here"] [] (sp_Lupright K) := Cal.of g__law_upright F__law_upright.kp ok__law_upright' (F__law_upright.bindsN fun _ _ _ _ _ _ us hl => match us, hl with | [_, _, _], _ => rfl)
  have ok__law_fair' : FnOk PP w K mg base CX0 4 (He.ga K "_law_fair") fd__law_fair ["_law_clock", "_law_many", "_law_rows_here"] (sp_Lfair K) := ok_Lfair B c__law_least c__law_upright F__law_fair
  have c__law_fair : Cal PP w K mg base CX0 4 "_law_fair" ["_law_clock", "_law_many", "_law_rows_here"] [] (sp_Lfair K) := Cal.of g__law_fair F__law_fair.kp ok__law_fair' (F__law_fair.bindsN fun _ _ _ _ _ _ us hl => match us, hl with | [_, _, _], _ => rfl)
  have ok__law_rows' : FnOk PP w K mg base CX0 3 (He.ga K "_law_rows") fd__law_rows ["_law_chessboard_here", "_law_clock", "_law_size", "_law_most"] (sp_Lrows K) := ok_Lrows B c__law_square c__law_pick F__law_rows
  have c__law_rows : Cal PP w K mg base CX0 3 "_law_rows" ["_law_chessboard_here", "_law_clock", "_law_size", "_law_most"] [] (sp_Lrows K) := Cal.of g__law_rows F__law_rows.kp ok__law_rows' (F__law_rows.bindsN fun _ _ _ _ _ _ us hl => match us, hl with | [_, _, _, _], _ => rfl)
  have m_eq : EqM PP w K mg base C := ⟨_, fd_eq, ok_eq B S I F_eq, meq.at_, meq.fn, (F_eq.bindsN fun _ _ _ _ _ _ us hl => match us, hl with | [_, _], _ => rfl)⟩
  have HF : HeardF K mg := ⟨_, fd__law_heard, g__law_heard, F__law_heard.kp, F__law_heard, (F__law_heard.bindsN fun _ _ _ _ _ _ us hl => match us, hl with | [_], _ => rfl)⟩
  have c__law_spaces_right : CalG PP w K mg base CX0 12 "_law_spaces_right" ["_law_chessboard_here", "_law_clock", "_law_many"] (sp_spaces_right K) := ⟨_, fd__law_spaces_right, g__law_spaces_right, F__law_spaces_right.kp, ok_spaces_right B S I m_Space m_eq c__law_rows c__law_fair c__law_least c__law_upright c__law_whites c__law_blacks c_fair_of k_fair_of c_white_space k_white_space c_black_space k_black_space F__law_spaces_right, (F__law_spaces_right.bindsN fun _ _ _ _ _ _ us hl => match us, hl with | [_, _, _], _ => rfl)⟩
  exact ok_law B S I SN m_Space EF HF TB hcdL c__law_chessboard c__law_pick c__law_square c__law_whites c__law_blacks c_whites k_whites c_blacks k_blacks c_swing c__law_spaces_right c_fair_of c_white_space c_black_space F_law
end K61

set_option Elab.async false
set_option linter.all false
set_option maxRecDepth 100000
set_option maxHeartbeats 0
/-! The top's run, and the law. -/
namespace K61
open PySem PySem.Spec PyProof.Rows L2
abbrev R : PySem.W.OpenRow := PySem.W.OpenLaw.row PySem.Challenge.rw_ropesays_k61_whole_whites_and_blacks
def names1 : List PySem.Str := [("RopeError" : PySem.Str), ("BadNumber" : PySem.Str), ("BadClock" : PySem.Str), ("BadRow" : PySem.Str), ("BadSpace" : PySem.Str), ("Misfit" : PySem.Str), ("BadText" : PySem.Str), ("CLOCKS" : PySem.Str), ("is_integer" : PySem.Str), ("is_within" : PySem.Str), ("is_clock" : PySem.Str), ("is_row" : PySem.Str)]
def names2 : List PySem.Str := [("need_number" : PySem.Str), ("need_clock" : PySem.Str), ("need_row" : PySem.Str), ("need_sized" : PySem.Str), ("MOST_SIZE" : PySem.Str), ("inverse_in" : PySem.Str), ("times_in" : PySem.Str), ("FIGURES" : PySem.Str), ("MOST_FIGURES" : PySem.Str), ("written" : PySem.Str), ("Scan" : PySem.Str), ("scans_of" : PySem.Str)]
def names3 : List PySem.Str := [("MOST_GIVEN" : PySem.Str), ("lead_of" : PySem.Str), ("cleared" : PySem.Str), ("cleared_by" : PySem.Str), ("with_row" : PySem.Str), ("least_in" : PySem.Str), ("space_in" : PySem.Str), ("form_of" : PySem.Str), ("upright_rows" : PySem.Str), ("upright_in" : PySem.Str), ("taken_clock" : PySem.Str), ("need_rows" : PySem.Str)]
def names4 : List PySem.Str := [("Space" : PySem.Str), ("need_space" : PySem.Str), ("upright" : PySem.Str), ("MOST_NAMES" : PySem.Str), ("MOST_GAPS_rims" : PySem.Str), ("differences" : PySem.Str), ("swing_in" : PySem.Str), ("swing" : PySem.Str), ("LEAST_GAPS" : PySem.Str), ("MOST_GAPS_roped" : PySem.Str), ("whites_in" : PySem.Str), ("blacks_in" : PySem.Str)]
def names5 : List PySem.Str := [("with_whites" : PySem.Str), ("with_blacks" : PySem.Str), ("fair_by" : PySem.Str), ("need_ring" : PySem.Str), ("fair_of" : PySem.Str), ("whites" : PySem.Str), ("blacks" : PySem.Str), ("white_space" : PySem.Str), ("black_space" : PySem.Str), ("_law_chessboard" : PySem.Str), ("_law_square" : PySem.Str), ("_law_pick" : PySem.Str)]
def names6 : List PySem.Str := [("_law_less" : PySem.Str), ("_law_least" : PySem.Str), ("_law_upright" : PySem.Str), ("_law_fair" : PySem.Str), ("_law_heard" : PySem.Str), ("_law_whites" : PySem.Str), ("_law_blacks" : PySem.Str), ("_law_rows" : PySem.Str), ("_law_spaces_right" : PySem.Str)]
def names : List PySem.Str := names1 ++ names2 ++ names3 ++ names4 ++ names5 ++ names6
def qv : Program := PySem.W.view R.prog [77]
theorem run (w : World) : HandSHeadRun.RunEq R qv hookY obY 20000 names w := by
  intro os
  kernel_rfl
end K61

set_option Elab.async false
set_option linter.all false
set_option maxRecDepth 100000
set_option maxHeartbeats 0
open PySem PySem.W PySem.Calls PyProof.Rows
theorem PySem.Challenge.cw_ropesays_k61_whole_whites_and_blacks_holds : PySem.Challenge.rw_ropesays_k61_whole_whites_and_blacks.Holds := by
  w_on; o_law
  refine HandSHeadRun.head_any (r := K61.R) (q := K61.qv) (H := K61.hookY) (ob := K61.obY) (M := 20000) (loose := K61.names) (d := HandSHeadRun.topDef K61.R.prog 77) (kwd := []) K61.obY_eq
    (by kernel_rfl) (fun s => by kernel_rfl) K61.run (by kernel_rfl) (by kernel_rfl) (by kernel_rfl) (by rfl) (by first | assumption | decide +kernel) (by decide +kernel) ⟨rfl, rfl, rfl, rfl, rfl, by decide +kernel⟩ ?wit ?walk
  case wit => w_witness2
  case walk =>
    refine Att.attach_callB (l := PySem.Challenge.rw_ropesays_k61_whole_whites_and_blacks) (n := 63) rfl (by kernel_rfl) fun w s₀ s₁ mg mb fa o pm cd doc a vs ns G Y ho hd hcd hmg hobj hints hlen hbits hg => ?_
    obtain ⟨K, KX, c⟩ := Y
    have nm : (HandSHeadRun.topDef K61.R.prog 77).name = ("law" : PySem.Str) := by kernel_rfl
    rw [nm] at hmg
    obtain ⟨fd, cL, T, eT, nT, C, hb, hF⟩ := K61.facts KX G.T.g hmg c
    exact K61.call_end KX G.T.g G.T.b G.T.builtins G.T.nolimit hg eT nT C G.T.bmain hobj hints (Nat.le_trans hlen (by decide)) ⟨rfl, by decide, by decide⟩ hF hb fun H hT hS => ⟨a, ns, rfl, hS, fun p hp => by
      obtain rfl : p = (T, (("law.<locals>.<lambda>" : PySem.Str))) := by simpa using hp
      exact LamX.TabS.nil hT, fun _ => rfl⟩
