import PyProof.Rows.All
import Wide.All
import OpenK.AllK
import Wide.FinOn
import HandS.ForMost
import HandS.Zip
import HandS.Style
import HandS.TupAny
import HandS.IsInst
import HandS.Evl
import HandS.SetFor
import HandS.Dict
import HandS.Conv
import HandS.WordsExc
import PySem.Challenge.RW_plait_k44_papers_of_unlike
set_option Elab.async false
set_option linter.all false
set_option maxRecDepth 100000
/-! TI0: tuples that are known to have no dict; their methods; dicts of tuples (sets of them, told as dicts whose values are True). -/
namespace TI
open PySem PySem.Spec PyProof.Rows L2 HT

def TupOb (o : Obj) : Prop := o.cls = .type "tuple" ∧ o.dict = none
def NT (K : PySem.W.Frag) (F : Hp) (p : Addr) (vs : List V) : Prop :=
  (∃ o, F p = some (.frz o (.tup vs)) ∧ TupOb o) ∨
  ∃ (o : Obj) (its : Array Value) (n : Nat), K.lookup p = some o ∧ o.cls = .type "tuple" ∧ o.dict = none ∧ o.data = .seq its n ∧ its.size ≤ sizeLine ∧ Vals vs its.toList
theorem NT.sq {K : PySem.W.Frag} {F : Hp} {p : Addr} {vs : List V} (h : NT K F p vs) : SqT K F p vs := by
  rcases h with ⟨o, h, _⟩ | ⟨o, its, n, h1, h2, h3, h4, h5, h6⟩
  · exact .inl (.inr ⟨o, h⟩)
  · exact .inr ⟨o, its, n, h1, h2, h4, h5, h6⟩
theorem NT.mono {K : PySem.W.Frag} {F F' : Hp} (e : Evl.Ex F F') {p : Addr} {vs : List V} (h : NT K F p vs) : NT K F' p vs := by
  rcases h with ⟨o, h, t⟩ | h
  · exact .inl ⟨o, e _ _ h, t⟩
  · exact .inr h
theorem NT.of {K : PySem.W.Frag} {H : Hp} {p : Addr} {vs : List V} {o : Obj} (h : H p = some (.frz o (.tup vs))) (t : TupOb o) : NT K H p vs := .inl ⟨o, h, t⟩
/-- what a new tuple's wish looks like -/
def FT (H : Hp) (vs : List V) (Q : VK) : Prop := ∀ p o, H p = none → TupOb o → Q (.ref p) (upd H p (.frz o (.tup vs)))

section
variable {X : Cx} {pins : List (Addr × Obj)} {σ : L2.St} {H : Hp} {s : Shared} {Q : VK}
theorem NT.at {p : Addr} {vs : List V} (I : Inv X pins σ H s) (h : NT X.K H p vs) : ∃ (its : List Value) (o : Obj) (n : Nat), Vals vs its ∧ s.heap.get? p = some o ∧ o.cls = .type "tuple" ∧ o.dict = none ∧ o.data = .seq its.toArray n ∧ vs.length ≤ sizeLine := by
  rcases h with ⟨o, h, t1, t2⟩ | ⟨o, its, n, h1, h2, h3, h4, h5, h6⟩
  · obtain ⟨e, z, its, r, o', e', c, n, d⟩ := (show ObjOk X.prog X.w H s.heap p (.frz o (.tup vs)) from I.hok p _ h)
    rw [e] at e'
    cases e'
    exact ⟨its, o, n, r, e, c, t2, d, z⟩
  · refine ⟨its.toList, o, n, h6, I.kIn p o h1, h2, h3, by simpa using h4, ?_⟩
    have := h6.length
    simp only [Array.length_toList] at this
    omega
theorem ft_laid {vs : List V} {its : List Value} {h' : Heap} {t' : Nat} (I : Inv X pins σ H s) (q : FT H vs Q) (r : Vals vs its) (z : vs.length ≤ sizeLine) (k : ∀ b u, s.heap.get? b = some u → h'.get? b = some u) :
    EP X pins σ Q (.ref h'.objs.size) { s with heap := h'.push { cls := .type "tuple", data := .seq its.toArray }, toks := t' } := by
  have I1 : Inv X pins σ H { s with heap := h', toks := t' } := I.kept (t' := t') k
  exact ⟨.ref h'.objs.size, _, I1.laid (t' := t') (o := .frz { cls := .type "tuple", data := .seq its.toArray } (.tup vs)) (fun b u e => Heap.get?_push_of_some _ e) (Nat.le_refl _)
    ⟨Heap.get?_push_size _ rfl, z, its, r, ⟨_, Heap.get?_push_size _ rfl, rfl, _, rfl⟩⟩, rfl, q _ _ (I1.hok.fresh (Nat.le_refl _)) ⟨rfl, rfl⟩⟩
def tTupF (t : TA) : TE := fun σ H Q => t σ H fun xs H1 => xs.length ≤ sizeLine ∧ FT H1 xs Q
theorem pe_tupF {es : List Expr} {t : TA} {x1 : Nat} {pos : Pos} (h : PA X es t) : PE X (.Tuple es x1 pos) (tTupF t) := by
  refine ⟨fun pins s σ H Q I hq => ?_⟩
  refine wpAny_Tuple_spliced (thn (h.run pos pins s σ H _ I hq) fun us s1 ⟨xs, H1, I1, r, z, q⟩ => ⟨by rw [← r.length]; exact z, ?_⟩)
  exact ft_laid (t' := s1.toks) I1 q r z fun _ _ e => e
/-- t + u -/
def rCatF (K : PySem.W.Frag) : R2 := fun x y H Q => ∃ a b xs ys, x = .ref a ∧ y = .ref b ∧ SqT K H a xs ∧ SqT K H b ys ∧ xs.length + ys.length ≤ sizeLine ∧
  (xs = [] → Q (.ref b) H) ∧ (xs ≠ [] → ys = [] → Q (.ref a) H) ∧ (xs ≠ [] → ys ≠ [] → FT H (xs ++ ys) Q)
theorem op_catF : OpR X (binaryOp .Add) (rCatF X.K) := by
  intro pins s σ H x y v u Q I rx ry h
  obtain ⟨a, b, xs, ys, rfl, rfl, ha, hb, hz, q0, q1, q2⟩ := h
  cases rx
  cases ry
  obtain ⟨its, r1, p1, _⟩ := I.tuple ha
  obtain ⟨its2, r2, p2, _⟩ := I.tuple hb
  by_cases hx : xs = []
  · subst hx
    cases r1
    exact cat_tup0 p1 p2 ⟨.ref b, H, I, rfl, q0 rfl⟩
  · refine HT.cat_tup p1 p2 (fun z => hx (r1.nil_iff.mp z)) (fun z => ⟨.ref a, H, I, rfl, q1 hx (r2.nil_iff.mp z)⟩) (fun z => ?_) (by rw [← r1.length, ← r2.length]; exact hz)
    have w : ys ≠ [] := fun w => z (r2.nil_iff.mpr w)
    have := ft_laid (t' := s.toks) I (q2 hx w) (r1.append r2) (by rw [List.length_append]; exact hz) fun _ _ e => e
    exact this
/-- t[lo:hi]: the whole of it is t itself -/
def rSlF (K : PySem.W.Frag) : V → Option Int → Option Int → Hp → VK → Prop := fun x lo hi H Q => ∃ a xs, x = .ref a ∧ SqT K H a xs ∧
  (HT.sIx xs.length 0 lo = 0 ∧ HT.sIx xs.length xs.length hi = xs.length → Q (.ref a) H) ∧ (¬ (HT.sIx xs.length 0 lo = 0 ∧ HT.sIx xs.length xs.length hi = xs.length) → FT H (cutV xs lo hi) Q)
theorem sl_tupF : SlR X (rSlF X.K) := by
  intro pins s σ H x v vl vu lo hi sl Q I rx hs pl pu h
  obtain ⟨a, xs, rfl, hx, q1, q2⟩ := h
  cases rx
  obtain ⟨its, r, ht, hz⟩ := I.tuple hx
  have hlen : its.toArray.size = xs.length := by rw [List.size_toArray]; exact r.length.symm
  refine ⟨"tuple", _, PyProof.Rows.slot_tuple_getitem.lookup, ht.typeIs, ?_⟩
  by_cases hw : HT.sIx xs.length 0 lo = 0 ∧ HT.sIx xs.length xs.length hi = xs.length
  · exact getItem_tuple_whole ht hs pl pu (by rw [hlen]; exact hw) ⟨.ref a, H, I, rfl, q1 hw⟩
  · refine HT.getItem_tuple_cut ht hs pl pu (by rw [hlen]; exact hw) ?_ (by rw [hlen]; exact hz)
    rw [hlen]
    exact ft_laid (t' := s.toks) I (q2 hw) ((r.drop (HT.sIx xs.length 0 lo)).take (HT.sIx xs.length xs.length hi - HT.sIx xs.length 0 lo)) (Nat.le_trans (cutV_length xs lo hi) hz) fun _ _ e => e
theorem call_tupleF : CallR X (.type "tuple") (fun xs H Q => ∃ p ys, xs = [.ref p] ∧ ((SqL X.K H p ys ∧ FT H ys Q) ∨ (SqT X.K H p ys ∧ Q (.ref p) H))) := by
  intro pins s σ H xs us Q I r h
  obtain ⟨p, ys, rfl, h⟩ := h
  obtain ⟨u, rfl, rx⟩ := vals1 r
  cases rx
  rcases h with ⟨hq, q⟩ | ⟨hq, q⟩
  · obtain ⟨its, r', pl, hz⟩ := I.list hq
    have hlen := r'.length
    refine call_tuple_list pl.isList (fun h' kp => ?_) (by simp only [List.size_toArray] <;> omega)
    exact ft_laid (t' := s.toks) I q r' hz kp
  · obtain ⟨its, r', pl, hz⟩ := I.tuple hq
    exact call_tuple_same pl ⟨.ref p, H, I, rfl, q⟩
/-- t.count(y) -/
def tCount (K : PySem.W.Frag) (to : TE) (t : TA) : TE := fun σ H Q => to σ H fun x H1 => ∃ a vs, x = .ref a ∧ NT K H1 a vs ∧ t σ H1 fun ys H2 => ∃ y, ys = [y] ∧ NT K H2 a vs ∧ vs.all flatV = true ∧ flatV y = true ∧ Q (.int ((vs.countP fun z => eqV z y : Nat) : Int)) H2
theorem count_eqU {x : V} : ∀ {xs : List V} {us : List Value}, Vals xs us → xs.all flatV = true → us.countP (eqU x) = xs.countP fun y => eqV y x
  | _, _, .nil, _ => rfl
  | y :: xs, u :: us, .cons r t, f => by
    rw [List.all_cons, Bool.and_eq_true] at f
    rw [List.countP_cons, List.countP_cons, count_eqU t f.2, eqU_of r f.1]
theorem pe_count {o e : Expr} {to : TE} {t : TA} {apos cpos : Pos} (ho : PE X o to) (ha : PA X [e] t)
    (hbase : attributeBase o "count" X.env (eval o X.env) = eval o X.env)
    (hs : starEach (e :: []) X.env = (false, eval e X.env) :: starEach [] X.env)
    (hline : (apos.endLine == cpos.line) = true) :
    PE X (.Call (.Attribute o "count" apos) [e] [] cpos) (tCount X.K to t) := by
  have hfew : ((backTo cpos (starEach (e :: []) X.env)).all (fun x => !x.1) && (backToKw cpos (keywordEach [] X.env)).all (fun x => x.1.isSome)
      && decide ((e :: []).length + ([] : List Keyword).length + (if ([] : List Keyword).isEmpty then 0 else 1) < 30)) = true := by rw [hs]; rfl
  refine ⟨fun pins s σ H Q I h => ?_⟩
  refine wpAny_Call_method_late hbase hfew hline rfl (thn (ho.run pins s σ H _ I h) fun v s1 ⟨x, H1, I1, r1, a, vs, ex, ht, q1⟩ => ?_)
  subst ex
  cases r1
  obtain ⟨its1, ob1, n1, rv1, hob1, hc1, hd1, _⟩ := ht.at I1
  refine ⟨"tuple", "tuple.count", PySem.F.plainAttrs_tuple, PySem.F.slot_tuple_count, PySem.F.type_tuple_count, ⟨ob1, hob1, hc1⟩, fun b e => ?_, ?_⟩
  · cases e
    exact ⟨ob1, hob1, hd1⟩
  have hA := ha.run cpos pins s1 σ H1 _ I1 q1
  rw [hs] at hA ⊢
  refine Calls.callWith_builtin (by rfl) (Calls.evalArgs_plain ?_)
  refine thn hA fun us s2 ⟨vs', H2, I2, r2, y, ey, ht2, f1, f2, q2⟩ => ?_
  subst ey
  cases r2 with
  | cons ry rt =>
    cases rt
    obtain ⟨its, ⟨cls, dd, data, sl⟩, n, rv, ho, hc, hdn, hd, hz⟩ := ht2.at I2
    simp only at hc hd hdn
    subst hc hd hdn
    refine call_meets PySem.F.slot_tuple_count ⟨_, ho, rfl⟩ PySem.F.entry_tuple_count (PySem.F.args_tuple_count_2 _ _)
      (SeqAt.tuple_countAt a its.toArray n none sl _ (eqU y)) ⟨ho, fun u' hu' => mem_eqAt ry f2 rv f1 u' (by simpa using hu'), ?_⟩
    rw [show its.toArray.toList = its from rfl, count_eqU rv f1]
    exact ⟨.int _, H2, I2.tok _, ⟨_, rfl⟩, q2⟩
/-! ### t[::-1] -/
theorem rev_places (n : Nat) : Builtin.Slice.slicePlaces ((n : Int) - 1) (-1) (-1) = n := by
  unfold Builtin.Slice.slicePlaces
  have h1 : ¬ ((-1 : Int) > 0) := by omega
  simp only [h1, if_false, Int.neg_neg, Int.ediv_one]
  split <;> omega
theorem rev_pick (xs : Array Value) : ((List.range xs.size).filterMap fun (m : Nat) => xs[(((xs.size : Nat) : Int) - 1 + (m : Int) * -1).toNat]?).toArray = xs.toList.reverse.toArray := by
  congr 1
  have e : (fun (m : Nat) => xs[(((xs.size : Nat) : Int) - 1 + (m : Int) * -1).toNat]?) = fun (m : Nat) => xs.toList[xs.size - 1 - m]? := by
    funext m
    rw [Array.getElem?_toList]
    congr 1
    omega
  rw [e]
  have key : ∀ (l : List Value), (List.range l.length).filterMap (fun m => l[l.length - 1 - m]?) = l.reverse := by
    intro l
    have : ∀ k, k ≤ l.length → (List.range k).filterMap (fun m => l[l.length - 1 - m]?) = l.reverse.take k := by
      intro k
      induction k with
      | zero => intro _; rfl
      | succ k ih =>
        intro hk
        rw [List.range_succ, List.filterMap_append, ih (by omega), List.take_add_one, List.getElem?_reverse (by omega)]
        rw [List.filterMap_cons]
        cases h : l[l.length - 1 - k]? with
        | none => simp
        | some v => simp
    rw [this l.length (Nat.le_refl _), List.take_of_length_le (by simp)]
  have := key xs.toList
  rw [Array.length_toList] at this
  exact this
theorem getItem_tuple_rev {prog : Program} {w : World} {A : Around} {E : Value → Shared → Prop} {t sl : Addr} {items : Array Value} {vs : Value} {Q : Value → Shared → Prop} (ht : IsTup s.heap t items) (hs : s.heap.IsSliceOf sl .none .none vs) (ps : IsPart vs (some (-1)))
    (h : Q (.ref s.heap.objs.size) { s with heap := s.heap.push { cls := .type "tuple", data := .seq items.toList.reverse.toArray } })
    (hsz : items.size ≤ sizeLine) : wpAny (model prog w) A (getItem (.ref t) (.ref sl)) Q E s := by
  have htake : sizeOk (.seq items.toList.reverse.toArray) := by
    show items.toList.reverse.toArray.size ≤ sizeLine
    rw [List.size_toArray, List.length_reverse, Array.length_toList]
    exact hsz
  obtain ⟨os, hos, hcs, hds⟩ := id hs
  have hTs : s.TypeIs (.ref sl) "slice" := ⟨os, hos, hcs⟩
  unfold getItem
  try with_reducible refine wpAny_holding ?_
  first | refine wpAny_bind (wpAny_pure ?_) | skip
  refine wpAny_bind (wpAny_sequenceKey ht.typeIs (by decide) ?_)
  refine wpAny_bind (wpAny_callSpecial?_slot (name := Str.ofString "__getitem__") ht.typeIs PyProof.Rows.slot_tuple_getitem
    (wpAny_call_entry PyProof.Rows.slot_tuple_getitem ht.typeIs entry_tuple_getitem ?_ (args_tuple_getitem _ _)))
  show wpAny _ _ (Builtin.Tuple.tupleItemsOf (.ref t) >>= _) _ _ s
  refine wpAny_bind (tupleItemsOf_ ht ?_)
  refine wpAny_bind (wpAny_typeOf hTs ?_)
  rw [if_pos (by decide)]
  have hap : ∀ {A' : Around} {Q' : Int × Int × Nat → Shared → Prop}, Q' (((items.size : Nat) : Int) - 1, -1, items.size) s → wpAny (model prog w) A' (Builtin.Slice.sliceApplied (.ref sl) (pure ((items.size : Nat) : Int))) Q' E s := by
    intro A' Q' hq
    unfold Builtin.Slice.sliceApplied Builtin.Slice.sliceFields
    refine wpAny_bind (wpAny_bind (wpAny_field hos hds (x := .none) rfl (wpAny_bind (wpAny_field hos hds (x := .none) rfl (wpAny_bind (wpAny_field hos hds (x := vs) rfl (wpAny_pure ?_)))))))
    refine wpAny_bind (slicePart_ ps ?_)
    show wpAny _ _ (if ((-1 : Int) == 0) = true then _ else _) _ _ s
    rw [if_neg (by decide)]
    refine wpAny_bind (slicePart_none (wpAny_bind (slicePart_none (wpAny_bind (wpAny_pure ?_)))))
    show wpAny _ _ (match Builtin.Slice.sliceAdjust none none (-1) ((items.size : Nat) : Int) with | (lo, hi) => pure (lo, (-1 : Int), Builtin.Slice.slicePlaces lo hi (-1))) _ _ s
    have e : Builtin.Slice.sliceAdjust none none (-1) ((items.size : Nat) : Int) = (((items.size : Nat) : Int) - 1, -1) := rfl
    rw [e]
    show wpAny _ _ (pure (((items.size : Nat) : Int) - 1, (-1 : Int), Builtin.Slice.slicePlaces (((items.size : Nat) : Int) - 1) (-1) (-1))) _ _ s
    rw [rev_places]
    exact wpAny_pure hq
  refine wpAny_bind (hap ?_)
  have hno : ¬ (((((items.size : Nat) : Int) - 1) == 0 && (-1 : Int) == 1 && items.size == items.size) = true) := by
    intro q
    rw [Bool.and_eq_true, Bool.and_eq_true] at q
    exact absurd q.1.2 (by decide)
  show wpAny _ _ (if ((((items.size : Nat) : Int) - 1) == 0 && (-1 : Int) == 1 && items.size == items.size) = true then _ else _) _ _ s
  rw [if_neg hno, rev_pick]
  first
    | exact wpAny_bind (m := Builtin.Tuple.tupleExact _) (wpAny_newObj_type (wpAny_pure ⟨_, rfl, wpAny_pure h⟩) htake)
    | exact wpAny_bind (m := Builtin.Tuple.tupleExact _) (wpAny_newObj_type (wpAny_bind (wpAny_pure (wpAny_pure ⟨_, rfl, wpAny_pure h⟩))) htake)
    | exact wpAny_bind (wpAny_bind (m := Builtin.Tuple.tupleExact _) (wpAny_newObj_type (wpAny_pure (wpAny_pure ⟨_, rfl, wpAny_pure h⟩)) htake))
    | exact wpAny_bind (wpAny_bind (m := Builtin.Tuple.tupleExact _) (wpAny_newObj_type (wpAny_pure ⟨_, rfl, wpAny_pure h⟩) htake))
/-- xs[::-1], a list or a tuple -/
def tRevF (K : PySem.W.Frag) (te : TE) : TE := fun σ H Q => te σ H fun x H1 => ∃ a xs, x = .ref a ∧ ((SqL K H1 a xs ∧ ∀ p, H1 p = none → Q (.ref p) (upd H1 p (.lst xs.reverse))) ∨ (SqT K H1 a xs ∧ FT H1 xs.reverse Q))
theorem pe_revF {e : Expr} {te : TE} {k : Nat} {p1 p2 p3 pos : Pos} (he : PE X e te) : PE X (.Subscript e (.Slice none none (some (.UnaryOp .USub (.Constant (.int 1) k p1) p2)) p3) pos) (tRevF X.K te) := by
  refine ⟨fun pins s σ H Q I h => ?_⟩
  refine Subscript_ (thn (he.run pins s σ H _ I h) fun v s1 ⟨x, H1, I1, r1, q1⟩ => ?_)
  obtain ⟨a, xs, ex, q⟩ := q1
  subst ex
  cases r1
  have hst : PO X (some (.UnaryOp .USub (.Constant (.int 1) k p1) p2)) (tPart (tUn (rU fun i => .int (-i)) (tC (.int 1)))) := po_some (pe_un un_neg pe_int)
  refine wpAny_Slice (thn (po_none.run pins s1 σ H1 (fun o H2 => o = none ∧ H2 = H1) I1 ⟨rfl, rfl⟩) fun vl s2 ⟨l, H2, I2, pl, el, e2⟩ => ?_)
  subst el e2
  refine thn (po_none.run pins s2 σ H2 (fun o H3 => o = none ∧ H3 = H2) I2 ⟨rfl, rfl⟩) fun vu s3 ⟨u, H3, I3, pu, eu, e3⟩ => ?_
  subst eu e3
  refine thn (hst.run pins s3 σ H3 (fun o H4 => o = some (-1) ∧ H4 = H3) I3 ⟨1, rfl, -1, rfl, rfl, rfl⟩) fun vs s4 ⟨o, H4, I4, ps, eo, e4⟩ => ?_
  subst eo e4
  have I5 : Inv X pins σ H4 { s4 with heap := s4.heap.push { cls := .type "slice", data := .fields #[vl, vu, vs] } } := I4.kept (t' := s4.toks) fun b ob q => Heap.get?_push_of_some _ q
  show wpAny (model X.prog X.w) X.A (subscriptTail e (.Slice none none (some (.UnaryOp .USub (.Constant (.int 1) k p1) p2)) p3) (.ref a) (.ref s4.heap.objs.size)) (EP X pins σ Q) X.xe { s4 with heap := s4.heap.push { cls := .type "slice", data := .fields #[vl, vu, vs] } }
  rcases q with ⟨hx, q⟩ | ⟨hx, q⟩
  · obtain ⟨its, r, ht, hz⟩ := I5.list hx
    have hlen := r.length
    refine tail_any (ops := [.ref a, .ref s4.heap.objs.size]) ht.isList.typeIs (PySem.slot_list_getitem.lookup) ?_ (by with_unfolding_all rfl)
    refine wpAny_getItem_list_slice ht.isList (Heap.IsSliceOf.new _ vl vu vs) pl pu ps (by decide) ?_ (by rw [List.size_toArray]; omega)
    rw [PySem.W.krv_pick]
    refine ⟨.ref _, _, I5.laid (t' := s4.toks) (o := .lst xs.reverse) (fun b ob q => Heap.get?_push_of_some _ q) (Nat.le_refl _) ?_, rfl, q _ (I5.hok.fresh (Nat.le_refl _))⟩
    exact ⟨by rw [List.length_reverse]; exact hz, _, 0, r.reverse, Heap.get?_push_size _ rfl⟩
  · obtain ⟨its, r, ht, hz⟩ := I5.tuple hx
    have hlen := r.length
    cases pl
    cases pu
    refine tail_any (ops := [.ref a, .ref s4.heap.objs.size]) ht.typeIs (PyProof.Rows.slot_tuple_getitem.lookup) ?_ (by with_unfolding_all rfl)
    refine getItem_tuple_rev ht (Heap.IsSliceOf.new _ .none .none vs) ps ?_ (by rw [List.size_toArray]; omega)
    exact ft_laid (t' := s4.toks) I5 q r.reverse (by rw [List.length_reverse]; exact hz) fun _ _ e => e
/-! ### len(set(t)), t a tuple of ints -/
def nodupN : List Int → Nat
  | [] => 0
  | x :: r => if x ∈ r then nodupN r else nodupN r + 1
theorem nodupN_of : ∀ (ns ks : List Int), ks.Nodup → (∀ k, k ∈ ks ↔ k ∈ ns) → ks.length = nodupN ns
  | [], ks, _, h => by
    cases ks with
    | nil => rfl
    | cons k ks => exact absurd ((h k).mp (by simp)) (by simp)
  | x :: r, ks, hd, h => by
    unfold nodupN
    by_cases hx : x ∈ r
    · rw [if_pos hx]
      exact nodupN_of r ks hd fun k => by
        rw [h k]
        constructor
        · intro hk
          rcases List.mem_cons.mp hk with rfl | hk
          · exact hx
          · exact hk
        · intro hk; exact List.mem_cons_of_mem _ hk
    · rw [if_neg hx]
      have hm : x ∈ ks := (h x).mpr (by simp)
      have hl : (ks.erase x).length = nodupN r := nodupN_of r (ks.erase x) (hd.erase x) fun k => by
        rw [hd.mem_erase_iff, h k]
        constructor
        · rintro ⟨h1, h2⟩
          rcases List.mem_cons.mp h2 with rfl | h2
          · exact absurd rfl h1
          · exact h2
        · intro hk
          exact ⟨fun e => hx (by rw [← e]; exact hk), List.mem_cons_of_mem _ hk⟩
      rw [← hl, List.length_erase_of_mem hm]
      have : 0 < ks.length := List.length_pos_of_mem hm
      omega
def tLenSetT (K : PySem.W.Frag) (ta : TE) : TE := fun σ H Q => ta σ H fun x H1 => ∃ (l : Addr) (ns : List Int), x = .ref l ∧ NT K H1 l (ns.map V.int) ∧ ns.length ≤ 4000 ∧ Q (.int (nodupN ns : Nat)) H1
theorem pe_lenSetT {a : Expr} {ta : TE} {p p2 q pos : Pos} (hc : X.calm = true) (hg : Gl X "len") (hm : X.mg "len" = none) (hg2 : Gl X "set") (hm2 : X.mg "set" = none) (ha : PE X a ta)
    (na : starEach [a] X.env = (false, eval a X.env) :: starEach [] X.env) : PE X (.Call (.Name "len" p) [.Call (.Name "set" p2) [a] [] q] [] pos) (tLenSetT X.K ta) := by
  refine ⟨fun pins s σ H Q I h => ?_⟩
  refine Call_ (ld_blt I hg hm PySem.boot_len ?_)
  refine PyProof.Rows.callWith_builtin1 (PyProof.Rows.args_cons ?_ rfl) rfl rfl
  refine Call_ (ld_blt I hg2 hm2 PyProof.Rows.boot_set ?_)
  refine PyProof.Rows.callWith_type1 (PyProof.Rows.args_cons (thn (ha.run pins s σ H _ I h) fun v s1 ⟨x, H1, I1, r1, q1⟩ => PyProof.Rows.args_nil ?_) na) na rfl
  obtain ⟨l, ns, rfl, hq, hl, q1⟩ := q1
  cases r1
  obtain ⟨its, o, n, r, ho, hoc, hod, hdat, hz⟩ := hq.at I1
  have ht : s1.heap.IsTuple l its.toArray := ⟨o, ho, hoc, n, hdat⟩
  refine call_set_tupI ns (I1.ok.hd hc) ht (by simpa using RZ.intsAre_vals r) (by unfold scanBound; omega) fun h' tk c hS hcl hk => ?_
  obtain ⟨o2, es, ep, t, ho2, hex, hd, g, nd, hmem, hb, hf, hn, _⟩ := hS
  have hl2 : c = nodupN ns := by
    have := nodupN_of ns (es.toList.map L2.keyOf) nd fun k => by
      rw [← hmem k]
      simp
    rw [← hn, ← this, List.length_map, Array.length_toList]
  refine PyProof.Rows.args_nil ?_
  have I2 : Inv X pins σ H1 { s1 with heap := h', toks := tk } := I1.kept fun b o e => hk b o e
  refine call_len_set ho2 hex hd hf (by rw [hn] <;> omega) ⟨.int (nodupN ns : Nat), H1, I2.tok _, ⟨_, by rw [hn, hl2]⟩, q1⟩
end

/-! ### dicts whose keys are tuples of ints, whose values are True -/
def dxs (as : List (List Int × Addr)) : List (List Int × Addr × Value) := as.map fun x => (x.1, x.2, .bool true)
def DTO (p : Addr) (as : List (List Int × Addr)) : HO := .ext fun h => as.length ≤ sizeLine ∧ (p == sysModules) = false ∧ (as.map (·.1)).Nodup ∧
  ∃ (P : Program) (w : World) (o : Obj) (es : Array DictEntry) (ep : Nat), h.get? p = some o ∧ o.ExactDict ∧ o.data = .dict es ep ∧ es.toList = (dxs as).map (entryOfKey (tupleKind (intKind P w)))
def KeysAt (K : PySem.W.Frag) (F : Hp) (as : List (List Int × Addr)) : Prop := ∀ x ∈ as, NT K F x.2 (x.1.map V.int)
theorem KeysAt.mono {K : PySem.W.Frag} {F F' : Hp} (e : Evl.Ex F F') {as : List (List Int × Addr)} (h : KeysAt K F as) : KeysAt K F' as := fun x hx => (h x hx).mono e
def hasI (as : List (List Int × Addr)) (k : List Int) : Bool := as.any fun z => decide (z.1 = k)
def putI (as : List (List Int × Addr)) (k : List Int) (b : Addr) : List (List Int × Addr) := if hasI as k = true then as else as ++ [(k, b)]
theorem atKey_dxs (k : List Int) : ∀ (as : List (List Int × Addr)), (atKey (dxs as) k).isSome = hasI as k
  | [] => rfl
  | x :: as => by
    have ih := atKey_dxs k as
    unfold atKey dxs at ih ⊢
    unfold hasI at ih ⊢
    rw [List.map_cons, List.find?_cons, List.any_cons]
    by_cases h : x.1 = k
    · simp [h]
    · simp only [h, decide_false, Bool.false_or]
      exact ih
theorem putAt_dxs (k : List Int) (as : List (List Int × Addr)) : (dxs as).map (putAt k (.bool true)) = dxs as := by
  unfold dxs
  rw [List.map_map]
  refine List.map_congr_left fun x _ => ?_
  show putAt k _ (x.1, x.2, Value.bool true) = _
  unfold putAt
  split <;> rfl
theorem stored_dxs (as : List (List Int × Addr)) (k : List Int) (b : Addr) : storedH (dxs as) k b (.bool true) = dxs (putI as k b) := by
  unfold storedH putI
  rw [atKey_dxs]
  by_cases h : hasI as k = true
  · rw [if_pos h, if_pos h, putAt_dxs]
  · rw [if_neg h, if_neg h]
    unfold dxs
    rw [List.map_append]; rfl
theorem dto_ok {P : Program} {w : World} {H : Hp} {h : Heap} {p : Addr} {as : List (List Int × Addr)} (z : as.length ≤ sizeLine) (hd : (p == sysModules) = false) (nd : (as.map (·.1)).Nodup)
    {P0 : Program} {w0 : World} {o : Obj} {es : Array DictEntry} {ep : Nat} (h1 : h.get? p = some o) (h2 : o.ExactDict) (h3 : o.data = .dict es ep) (h4 : es.toList = (dxs as).map (entryOfKey (tupleKind (intKind P0 w0)))) :
    ObjOk P w H h p (DTO p as) :=
  ⟨⟨z, hd, nd, P0, w0, o, es, ep, h1, h2, h3, h4⟩, ⟨o, h1⟩, fun ha hb ⟨a1, a2, a3, P1, w1, o1, es1, ep1, b1, b2, b3, b4⟩ k => ⟨a1, a2, a3, P1, w1, o1, es1, ep1, k _ b1, b2, b3, b4⟩⟩
section
variable {X : Cx} {pins : List (Addr × Obj)} {σ : L2.St} {H : Hp} {s : Shared} {Q : VK}
theorem NT.key {b : Addr} {k : List Int} (I : Inv X pins σ H s) (h : NT X.K H b (k.map V.int)) : (tupleKind (intKind X.prog X.w)).is s.heap k b := by
  obtain ⟨its, o, n, r, ho, hc, _, hd, _⟩ := h.at I
  refine ⟨o, its.toArray, n, ho, hc, hd, ?_⟩
  show PySem.ItemsAre _ _ its
  have : ∀ {ks : List Int} {us : List Value}, Vals (ks.map V.int) us → PySem.ItemsAre (intKind X.prog X.w) ks us := by
    intro ks
    induction ks with
    | nil => intro us r; cases r; exact .nil
    | cons k ks ih =>
      intro us r
      cases r with
      | cons r1 r2 =>
        obtain ⟨t, rfl⟩ := r1
        exact .cons (intKind_is X.prog X.w k t) (ih r2)
  exact this r
theorem dto_at {d : Addr} {as : List (List Int × Addr)} (I : Inv X pins σ H s) (e : H d = some (DTO d as)) (ks : KeysAt X.K H as) :
    as.length ≤ sizeLine ∧ (d == sysModules) = false ∧ s.heap.DictOfH (tupleKind (intKind X.prog X.w)) d (dxs as) := by
  obtain ⟨⟨z, hd, nd, P, w, o, es, ep, h1, h2, h3, h4⟩, _⟩ := (show ObjOk X.prog X.w H s.heap d (DTO d as) from I.hok d _ e)
  refine ⟨z, hd, o, es, ep, h1, h2, h3, h4, fun x hx => ?_, by unfold dxs; rw [List.map_map]; exact nd⟩
  unfold dxs at hx
  obtain ⟨y, hy, rfl⟩ := List.mem_map.mp hx
  exact (ks y hy).key I
def rDIn (K : PySem.W.Frag) (neg : Bool) : R2 := fun x y H Q => ∃ b k d as, x = .ref b ∧ NT K H b (k.map V.int) ∧ y = .ref d ∧ H d = some (DTO d as) ∧ KeysAt K H as ∧ Q (.bl (if neg = true then !hasI as k else hasI as k)) H
theorem op_dinT (hu : X.A.units + 1 < cLine) : OpR X (compareOp .In) (rDIn X.K false) := by
  intro pins s σ H x y v u Q I rx ry h
  obtain ⟨b, k, d, as, rfl, hb, rfl, hd, hk, q⟩ := h
  cases rx
  cases ry
  obtain ⟨z, hs, D⟩ := dto_at I hd hk
  refine wpAny_in_heap (tupleKind_room_in1 hu) (hb.key I) hs D ?_
  rw [atKey_dxs]
  exact ⟨.bl (hasI as k), H, I.tok _, rfl, q⟩
theorem op_dnotT (hu : X.A.units + 1 < cLine) : OpR X (compareOp .NotIn) (rDIn X.K true) := by
  intro pins s σ H x y v u Q I rx ry h
  obtain ⟨b, k, d, as, rfl, hb, rfl, hd, hk, q⟩ := h
  cases rx
  cases ry
  obtain ⟨z, hs, D⟩ := dto_at I hd hk
  refine wpAny_notIn_heap (tupleKind_room_in1 hu) (hb.key I) hs D ?_
  rw [atKey_dxs]
  exact ⟨.bl (!hasI as k), H, I.tok _, rfl, q⟩
/-- d[k] = True -/
def sDPutF (K : PySem.W.Frag) (td ty tv : TE) : TS := fun D σ H => tv σ H fun v H1 => td σ H1 fun x H2 => ty σ H2 fun y H3 => ∃ d b k as, v = .bl true ∧ x = .ref d ∧ y = .ref b ∧ NT K H3 b (k.map V.int) ∧ H3 d = some (DTO d as) ∧ KeysAt K H3 as ∧ as.length < sizeLine ∧ D.nx σ (upd H3 d (DTO d (putI as k b)))
theorem ps_dputF {o i value : Expr} {td ty tv : TE} {pos pos' : Pos} (hu : X.A.units + 1 < cLine) (ho : PE X o td) (hi : PE X i ty) (hv : PE X value tv) (hs : swapsWith value (some (.Subscript o i pos')) pos.line X.env = pure false) :
    PS X (.Assign [.Subscript o i pos'] value pos) (sDPutF X.K td ty tv) := by
  refine ⟨fun pins s σ H D I h => ?_⟩
  refine wpAny_Assign_Subscript (thn (hv.run pins s σ H _ I h) fun r s1 ⟨v, H1, I1, rv, q1⟩ => thn (ho.run pins s1 σ H1 _ I1 q1) fun u s2 ⟨x, H2, I2, rx, q2⟩ => thn (hi.run pins s2 σ H2 _ I2 q2) fun iv s3 ⟨y, H3, I3, ry, q3⟩ => ?_) hs
  obtain ⟨d, b, k, as, rfl, rfl, rfl, hb, hd, hk, hl, q⟩ := q3
  cases rv
  cases rx
  cases ry
  obtain ⟨z, hsm, dd⟩ := dto_at I3 hd hk
  have hz : (dxs as).length ≤ sizeLine := by unfold dxs; rw [List.length_map]; exact z
  refine wpAny_setItem_heap (hsz := hz) (tupleKind_room_in1 hu) (hb.key I3) dd fun h' dd' hsb => ?_
  rw [stored_dxs] at dd'
  obtain ⟨q', es, ep, hq, h2, h3, h4, _, h5⟩ := dd'
  have hlen : (putI as k b).length ≤ sizeLine := by
    unfold putI
    split
    · exact z
    · rw [List.length_append]; exact hl
  have nd : ((putI as k b).map (·.1)).Nodup := by
    unfold dxs at h5
    rw [List.map_map] at h5
    exact h5
  exact ⟨σ, _, d_write I3 (by rw [hd]; exact True.intro) hsb ⟨q', hq⟩ (dto_ok hlen hsm nd hq h2 h3 h4), q⟩
def tDNewF : TE := fun _ H Q => ∀ p, H p = none → Q (.ref p) (upd H p (DTO p []))
theorem pe_dnewF {pos : Pos} : PE X (.Dict [] [] pos) tDNewF := ⟨fun pins s σ H Q I h =>
  wpAny_Dict_empty ⟨.ref s.heap.objs.size, _, I.laid (a := s.heap.objs.size) (o := DTO s.heap.objs.size []) (t' := s.toks) (fun _ _ q => Heap.get?_push_of_some _ q) (Nat.le_refl _)
    (dto_ok (Nat.zero_le _) (beq_eq_false_iff_ne.mpr (Ne.symm (Nat.ne_of_lt I.big))) List.nodup_nil (P0 := X.prog) (w0 := X.w) (es := #[]) (ep := 0) (Heap.get?_push_size _ rfl) ⟨rfl, rfl, rfl⟩ rfl rfl), rfl, h _ (I.hok.fresh (Nat.le_refl _))⟩⟩
end

/-! ### a list or a tuple walked -/
section
variable {X : Cx} {tg : Expr}
def iAny (K : PySem.W.Frag) (tl : TE) : TI := fun σ H R => tl σ H fun x H1 => ∃ a, x = .ref a ∧ (((∃ xs, SqL K H1 a xs) ∧ R (Itl K a) H1) ∨ ((∃ xs, SqT K H1 a xs) ∧ R (Itt K a) H1))
theorem pi_any {l : Expr} {tl : TE} (hl : PE X l tl) : PI X tg l (iAny X.K tl) := by
  refine ⟨fun pins s σ H R I h => ?_⟩
  refine thn (hl.run pins s σ H _ I h) fun v s1 ⟨x, H1, I1, r1, q1⟩ => ?_
  obtain ⟨a, e, q⟩ := q1
  subst e
  cases r1
  rcases q with ⟨⟨xs, hq⟩, q⟩ | ⟨⟨xs, hq⟩, q⟩
  · obtain ⟨its, rv, p, hz⟩ := I1.list hq
    refine wpAny_pyIter_list p.isList ?_
    refine ⟨s1.heap.objs.size, [s1.heap.objs.size], _, _, H1, rfl, I1.kept (t' := s1.toks) fun b o e => Heap.get?_push_of_some _ e, turn_list a _, ⟨_, Heap.get?_push_size _ rfl, rfl, rfl⟩, fun b hb => ?_, q⟩
    have e : b = s1.heap.objs.size := by simpa using hb
    subst e
    exact I1.fpOk (Nat.le_refl _) (I1.hok.fresh (Nat.le_refl _))
  · obtain ⟨its, rv, p, hz⟩ := I1.tuple hq
    refine wpAny_pyIter_tuple (show s1.heap.IsTuple a its.toArray from p) ?_
    refine ⟨s1.heap.objs.size, [s1.heap.objs.size], _, _, H1, rfl, I1.kept (t' := s1.toks) fun b o e => Heap.get?_push_of_some _ e, turn_tuple a _, ⟨_, Heap.get?_push_size _ rfl, rfl, rfl⟩, fun b hb => ?_, q⟩
    have e : b = s1.heap.objs.size := by simpa using hb
    subst e
    exact I1.fpOk (Nat.le_refl _) (I1.hok.fresh (Nat.le_refl _))
end
end TI
set_option Elab.async false
set_option linter.all false
/-! TI1: trees of data, how they stand in the abstract heap (frozen, owned), the state of a walk. -/
namespace TI
open PySem L2

/-- a tree of data; the flag of a list, a dict: owned (it may still be changed in place) -/
inductive D where
  | non | bl (b : Bool) | int (i : Int) | str (s : Str)
  | scr (ns : List Int)
  | lst (o : Bool) (xs : List D)
  | tup (xs : List D)
  | dK (o : Bool) (ks : List Key) (xs : List D)
  | dT (o : Bool) (ks : List (List Int))
  | pr (xs : List D)
  deriving Inhabited

mutual
def isF : D → Bool
  | .non => true
  | .bl _ => true
  | .int _ => true
  | .str _ => true
  | .scr _ => true
  | .lst o xs => !o && isFs xs
  | .tup xs => isFs xs
  | .dK o _ xs => !o && isFs xs
  | .dT o _ => !o
  | .pr xs => isFs xs
def isFs : List D → Bool
  | [] => true
  | x :: xs => isF x && isFs xs
end
mutual
def fz : D → D
  | .non => .non
  | .bl b => .bl b
  | .int i => .int i
  | .str s => .str s
  | .scr ns => .scr ns
  | .lst _ xs => .lst false (fzs xs)
  | .tup xs => .tup xs
  | .dK _ ks xs => .dK false ks (fzs xs)
  | .dT _ ks => .dT false ks
  | .pr xs => .pr (fzs xs)
def fzs : List D → List D
  | [] => []
  | x :: xs => fz x :: fzs xs
end

abbrev Tag := Nat × Nat
abbrev Om := Addr → Option (Tag × List Nat)

section
variable (K : PySem.W.Frag)
mutual
/-- frozen data at F -/
def Rep (F : Hp) : D → V → Prop
  | .non, v => v = .non
  | .bl b, v => v = .bl b
  | .int i, v => v = .int i
  | .str s, v => v = .str s
  | .scr ns, v => ∃ p, v = .ref p ∧ SqL K F p (ns.map V.int)
  | .lst o xs, v => o = false ∧ ∃ p vs, v = .ref p ∧ F p = some (.lst vs) ∧ Reps F xs vs
  | .tup xs, v => ∃ p vs, v = .ref p ∧ NT K F p vs ∧ Reps F xs vs
  | .pr xs, v => ∃ p vs, v = .ref p ∧ SqT K F p vs ∧ Reps F xs vs
  | .dK o ks xs, v => o = false ∧ ∃ p vs, v = .ref p ∧ F p = some (.dK (ks.zip vs)) ∧ ks.length = xs.length ∧ Reps F xs vs
  | .dT o ks, v => o = false ∧ ∃ p as, v = .ref p ∧ F p = some (DTO p as) ∧ as.map (·.1) = ks ∧ KeysAt K F as
def Reps (F : Hp) : List D → List V → Prop
  | [], vs => vs = []
  | x :: xs, vs => ∃ v vr, vs = v :: vr ∧ Rep F x v ∧ Reps F xs vr
end
mutual
/-- a tree, its owned nodes tagged by ω -/
def Own (F H : Hp) (ω : Om) (t : Tag) : D → List Nat → V → Prop
  | .lst true xs, path, v => ∃ p vs, v = .ref p ∧ H p = some (.lst vs) ∧ ω p = some (t, path) ∧ Owns F H ω t xs path 0 vs
  | .dK true ks xs, path, v => ∃ p vs, v = .ref p ∧ H p = some (.dK (ks.zip vs)) ∧ ω p = some (t, path) ∧ ks.length = xs.length ∧ Owns F H ω t xs path 0 vs
  | .dT true ks, path, v => ∃ p as, v = .ref p ∧ H p = some (DTO p as) ∧ ω p = some (t, path) ∧ as.map (·.1) = ks ∧ KeysAt K F as
  | .lst false xs, _, v => Rep K F (.lst false xs) v
  | .dK false ks xs, _, v => Rep K F (.dK false ks xs) v
  | .dT false ks, _, v => Rep K F (.dT false ks) v
  | .pr xs, path, v => ∃ p vs, v = .ref p ∧ SqT K F p vs ∧ Owns F H ω t xs path 0 vs
  | .non, _, v => v = .non
  | .bl b, _, v => v = .bl b
  | .int i, _, v => v = .int i
  | .str s, _, v => v = .str s
  | .scr ns, _, v => Rep K F (.scr ns) v
  | .tup xs, _, v => Rep K F (.tup xs) v
def Owns (F H : Hp) (ω : Om) (t : Tag) : List D → List Nat → Nat → List V → Prop
  | [], _, _, vs => vs = []
  | x :: xs, path, j, vs => ∃ v vr, vs = v :: vr ∧ Own F H ω t x (path ++ [j]) v ∧ Owns F H ω t xs path (j + 1) vr
end
end

variable {K : PySem.W.Frag} {F F' H H' : Hp} {ω ω' : Om} {t t' : Tag}
abbrev Ex := Evl.Ex
theorem reps_len : ∀ {xs : List D} {vs : List V}, Reps K F xs vs → vs.length = xs.length
  | [], _, h => by rw [Reps] at h; subst h; rfl
  | x :: xs, vs, h => by
    rw [Reps] at h
    obtain ⟨v, vr, rfl, _, h⟩ := h
    simp [reps_len h]
theorem owns_len : ∀ {xs : List D} {vs : List V} {path : List Nat} {j : Nat}, Owns K F H ω t xs path j vs → vs.length = xs.length
  | [], _, _, _, h => by rw [Owns] at h; subst h; rfl
  | x :: xs, vs, _, _, h => by
    rw [Owns] at h
    obtain ⟨v, vr, rfl, _, h⟩ := h
    simp [owns_len h]
mutual
theorem Rep.mono (e : Ex F F') : ∀ {d : D} {v : V}, Rep K F d v → Rep K F' d v
  | .non, _, h => h
  | .bl _, _, h => h
  | .int _, _, h => h
  | .str _, _, h => h
  | .scr ns, _, h => by
    rw [Rep] at h ⊢
    obtain ⟨p, rfl, h⟩ := h
    exact ⟨p, rfl, Evl.ex_l e h⟩
  | .lst o xs, _, h => by
    rw [Rep] at h ⊢
    obtain ⟨ho, p, vs, rfl, h1, h2⟩ := h
    exact ⟨ho, p, vs, rfl, e _ _ h1, Reps.mono e h2⟩
  | .tup xs, _, h => by
    rw [Rep] at h ⊢
    obtain ⟨p, vs, rfl, h1, h2⟩ := h
    exact ⟨p, vs, rfl, h1.mono e, Reps.mono e h2⟩
  | .pr xs, _, h => by
    rw [Rep] at h ⊢
    obtain ⟨p, vs, rfl, h1, h2⟩ := h
    exact ⟨p, vs, rfl, Evl.ex_t e h1, Reps.mono e h2⟩
  | .dK o ks xs, _, h => by
    rw [Rep] at h ⊢
    obtain ⟨ho, p, vs, rfl, h1, hl, h2⟩ := h
    exact ⟨ho, p, vs, rfl, e _ _ h1, hl, Reps.mono e h2⟩
  | .dT o ks, _, h => by
    rw [Rep] at h ⊢
    obtain ⟨ho, p, as, rfl, h1, hl, h2⟩ := h
    exact ⟨ho, p, as, rfl, e _ _ h1, hl, h2.mono e⟩
theorem Reps.mono (e : Ex F F') : ∀ {xs : List D} {vs : List V}, Reps K F xs vs → Reps K F' xs vs
  | [], _, h => h
  | x :: xs, _, h => by
    rw [Reps] at h ⊢
    obtain ⟨v, vr, rfl, h1, h2⟩ := h
    exact ⟨v, vr, rfl, Rep.mono e h1, Reps.mono e h2⟩
end
mutual
theorem Rep.own : ∀ {d : D} {v : V} {path : List Nat}, Rep K F d v → Own K F H ω t d path v
  | .non, _, _, h => h
  | .bl _, _, _, h => h
  | .int _, _, _, h => h
  | .str _, _, _, h => h
  | .scr ns, _, _, h => by rw [Own]; exact h
  | .tup ns, _, _, h => by rw [Own]; exact h
  | .pr ns, _, _, h => by
    rw [Rep] at h; rw [Own]
    obtain ⟨p, vs, rfl, h1, h2⟩ := h
    exact ⟨p, vs, rfl, h1, Reps.owns h2⟩
  | .lst true _, _, _, h => by rw [Rep] at h; exact absurd h.1 (by decide)
  | .dK true _ _, _, _, h => by rw [Rep] at h; exact absurd h.1 (by decide)
  | .dT true _, _, _, h => by rw [Rep] at h; exact absurd h.1 (by decide)
  | .lst false ns, _, _, h => by rw [Own]; exact h
  | .dK false _ _, _, _, h => by rw [Own]; exact h
  | .dT false _, _, _, h => by rw [Own]; exact h
theorem Reps.owns : ∀ {xs : List D} {vs : List V} {path : List Nat} {j : Nat}, Reps K F xs vs → Owns K F H ω t xs path j vs
  | [], _, _, _, h => h
  | x :: xs, _, _, _, h => by
    rw [Reps] at h; rw [Owns]
    obtain ⟨v, vr, rfl, h1, h2⟩ := h
    exact ⟨v, vr, rfl, Rep.own h1, Reps.owns h2⟩
end
mutual
theorem Own.rep : ∀ {d : D} {v : V} {path : List Nat}, Own K F H ω t d path v → isF d = true → Rep K F d v
  | .non, _, _, h, _ => h
  | .bl _, _, _, h, _ => h
  | .int _, _, _, h, _ => h
  | .str _, _, _, h, _ => h
  | .scr _, _, _, h, _ => by rw [Own] at h; exact h
  | .tup _, _, _, h, _ => by rw [Own] at h; exact h
  | .pr _, _, _, h, f => by
    rw [Own] at h; rw [Rep]; rw [isF] at f
    obtain ⟨p, vs, rfl, h1, h2⟩ := h
    exact ⟨p, vs, rfl, h1, Owns.reps h2 f⟩
  | .lst true _, _, _, h, f => by simp [isF] at f
  | .dK true _ _, _, _, h, f => by simp [isF] at f
  | .dT true _, _, _, h, f => by simp [isF] at f
  | .lst false _, _, _, h, _ => by rw [Own] at h; exact h
  | .dK false _ _, _, _, h, _ => by rw [Own] at h; exact h
  | .dT false _, _, _, h, _ => by rw [Own] at h; exact h
theorem Owns.reps : ∀ {xs : List D} {vs : List V} {path : List Nat} {j : Nat}, Owns K F H ω t xs path j vs → isFs xs = true → Reps K F xs vs
  | [], _, _, _, h, _ => h
  | x :: xs, _, _, _, h, f => by
    rw [Reps]; rw [Owns] at h
    rw [isFs, Bool.and_eq_true] at f
    obtain ⟨v, vr, rfl, h1, h2⟩ := h
    exact ⟨v, vr, rfl, h1.rep f.1, Owns.reps h2 f.2⟩
end
mutual
/-- a tree moved: its tag and path renamed, its cells as they were -/
theorem Own.move (e : Ex F F') : ∀ {d : D} {v : V} {path path' : List Nat}, (∀ a q, ω a = some (t, path ++ q) → ω' a = some (t', path' ++ q) ∧ H' a = H a) → Own K F H ω t d path v → Own K F' H' ω' t' d path' v
  | .non, _, _, _, _, h => h
  | .bl _, _, _, _, _, h => h
  | .int _, _, _, _, _, h => h
  | .str _, _, _, _, _, h => h
  | .scr _, _, _, _, _, h => by rw [Own] at h ⊢; exact h.mono e
  | .tup _, _, _, _, _, h => by rw [Own] at h ⊢; exact h.mono e
  | .pr xs, _, path, path', k, h => by
    rw [Own] at h ⊢
    obtain ⟨p, vs, rfl, h1, h2⟩ := h
    exact ⟨p, vs, rfl, Evl.ex_t e h1, Owns.move e k h2⟩
  | .lst false _, _, _, _, _, h => by rw [Own] at h ⊢; exact h.mono e
  | .dK false _ _, _, _, _, _, h => by rw [Own] at h ⊢; exact h.mono e
  | .dT false _, _, _, _, _, h => by rw [Own] at h ⊢; exact h.mono e
  | .lst true xs, _, path, path', k, h => by
    rw [Own] at h ⊢
    obtain ⟨p, vs, rfl, h1, h2, h3⟩ := h
    obtain ⟨k1, k2⟩ := k p [] (by rw [List.append_nil]; exact h2)
    exact ⟨p, vs, rfl, by rw [k2]; exact h1, by rw [List.append_nil] at k1; exact k1, Owns.move e k h3⟩
  | .dK true ks xs, _, path, path', k, h => by
    rw [Own] at h ⊢
    obtain ⟨p, vs, rfl, h1, h2, hl, h3⟩ := h
    obtain ⟨k1, k2⟩ := k p [] (by rw [List.append_nil]; exact h2)
    exact ⟨p, vs, rfl, by rw [k2]; exact h1, by rw [List.append_nil] at k1; exact k1, hl, Owns.move e k h3⟩
  | .dT true ks, _, path, path', k, h => by
    rw [Own] at h ⊢
    obtain ⟨p, as, rfl, h1, h2, hl, h3⟩ := h
    obtain ⟨k1, k2⟩ := k p [] (by rw [List.append_nil]; exact h2)
    exact ⟨p, as, rfl, by rw [k2]; exact h1, by rw [List.append_nil] at k1; exact k1, hl, h3.mono e⟩
theorem Owns.move (e : Ex F F') : ∀ {xs : List D} {vs : List V} {path path' : List Nat} {j : Nat}, (∀ a q, ω a = some (t, path ++ q) → ω' a = some (t', path' ++ q) ∧ H' a = H a) → Owns K F H ω t xs path j vs → Owns K F' H' ω' t' xs path' j vs
  | [], _, _, _, _, _, h => h
  | x :: xs, _, path, path', j, k, h => by
    rw [Owns] at h ⊢
    obtain ⟨v, vr, rfl, h1, h2⟩ := h
    refine ⟨v, vr, rfl, Own.move e (fun a q ha => ?_) h1, Owns.move e k h2⟩
    have := k a (j :: q) (by rw [show path ++ j :: q = path ++ [j] ++ q by simp]; exact ha)
    rw [show path' ++ [j] ++ q = path' ++ j :: q by simp]
    exact this
end
mutual
/-- a tree frozen: its cells are known from now on -/
theorem Own.freeze (e : Ex F F') : ∀ {d : D} {v : V} {path : List Nat}, (∀ a q, ω a = some (t, path ++ q) → F' a = H a) → Own K F H ω t d path v → Rep K F' (fz d) v
  | .non, _, _, _, h => h
  | .bl _, _, _, _, h => h
  | .int _, _, _, _, h => h
  | .str _, _, _, _, h => h
  | .scr _, _, _, _, h => by rw [Own] at h; exact h.mono e
  | .tup _, _, _, _, h => by rw [Own] at h; exact h.mono e
  | .pr xs, _, path, k, h => by
    rw [Own] at h; rw [fz, Rep]
    obtain ⟨p, vs, rfl, h1, h2⟩ := h
    exact ⟨p, vs, rfl, Evl.ex_t e h1, Owns.freeze e k h2⟩
  | .lst false xs, v, _, k, h => by rw [Own] at h; exact Rep.fz (h.mono e)
  | .dK false _ _, _, _, _, h => by rw [Own] at h; exact Rep.fz (h.mono e)
  | .dT false _, _, _, _, h => by rw [Own] at h; exact Rep.fz (h.mono e)
  | .lst true xs, _, path, k, h => by
    rw [Own] at h; rw [fz, Rep]
    obtain ⟨p, vs, rfl, h1, h2, h3⟩ := h
    exact ⟨rfl, p, vs, rfl, by rw [k p [] (by rw [List.append_nil]; exact h2)]; exact h1, Owns.freeze e k h3⟩
  | .dK true ks xs, _, path, k, h => by
    rw [Own] at h; rw [fz, Rep]
    obtain ⟨p, vs, rfl, h1, h2, hl, h3⟩ := h
    have hl' : ks.length = (fzs xs).length := by rw [← reps_len (Owns.freeze e k h3), owns_len h3]; exact hl
    exact ⟨rfl, p, vs, rfl, by rw [k p [] (by rw [List.append_nil]; exact h2)]; exact h1, hl', Owns.freeze e k h3⟩
  | .dT true ks, _, path, k, h => by
    rw [Own] at h; rw [fz, Rep]
    obtain ⟨p, as, rfl, h1, h2, hl, h3⟩ := h
    exact ⟨rfl, p, as, rfl, by rw [k p [] (by rw [List.append_nil]; exact h2)]; exact h1, hl, h3.mono e⟩
theorem Owns.freeze (e : Ex F F') : ∀ {xs : List D} {vs : List V} {path : List Nat} {j : Nat}, (∀ a q, ω a = some (t, path ++ q) → F' a = H a) → Owns K F H ω t xs path j vs → Reps K F' (fzs xs) vs
  | [], _, _, _, _, h => h
  | x :: xs, _, path, j, k, h => by
    rw [Owns] at h; rw [fzs, Reps]
    obtain ⟨v, vr, rfl, h1, h2⟩ := h
    refine ⟨v, vr, rfl, Own.freeze e (fun a q ha => ?_) h1, Owns.freeze e k h2⟩
    exact k a (j :: q) (by rw [show path ++ j :: q = path ++ [j] ++ q by simp]; exact ha)
theorem Rep.fz : ∀ {d : D} {v : V}, Rep K F' d v → Rep K F' (fz d) v
  | .non, _, h => h
  | .bl _, _, h => h
  | .int _, _, h => h
  | .str _, _, h => h
  | .scr _, _, h => h
  | .tup _, _, h => h
  | .pr xs, _, h => by
    rw [Rep] at h; rw [TI.fz, Rep]
    obtain ⟨p, vs, rfl, h1, h2⟩ := h
    exact ⟨p, vs, rfl, h1, Reps.fz h2⟩
  | .lst o xs, _, h => by
    rw [Rep] at h; rw [TI.fz, Rep]
    obtain ⟨ho, p, vs, rfl, h1, h2⟩ := h
    exact ⟨rfl, p, vs, rfl, h1, Reps.fz h2⟩
  | .dK o ks xs, _, h => by
    rw [Rep] at h; rw [TI.fz, Rep]
    obtain ⟨ho, p, vs, rfl, h1, hl, h2⟩ := h
    exact ⟨rfl, p, vs, rfl, h1, by rw [← reps_len (Reps.fz h2), reps_len h2]; exact hl, Reps.fz h2⟩
  | .dT o ks, _, h => by
    rw [Rep] at h; rw [TI.fz, Rep]
    obtain ⟨ho, p, as, rfl, h1, hl, h2⟩ := h
    exact ⟨rfl, p, as, rfl, h1, hl, h2⟩
theorem Reps.fz : ∀ {xs : List D} {vs : List V}, Reps K F' xs vs → Reps K F' (fzs xs) vs
  | [], _, h => h
  | x :: xs, _, h => by
    rw [Reps] at h; rw [fzs, Reps]
    obtain ⟨v, vr, rfl, h1, h2⟩ := h
    exact ⟨v, vr, rfl, Rep.fz h1, Reps.fz h2⟩
end
theorem Reps.get : ∀ {xs : List D} {vs : List V} {i : Nat} {x : D}, Reps K F xs vs → xs[i]? = some x → ∃ v, vs[i]? = some v ∧ Rep K F x v
  | [], _, _, _, _, e => by simp at e
  | y :: xs, _, 0, x, h, e => by
    rw [Reps] at h
    obtain ⟨v, vr, rfl, h1, h2⟩ := h
    obtain rfl : y = x := by simpa using e
    exact ⟨v, rfl, h1⟩
  | y :: xs, _, i + 1, x, h, e => by
    rw [Reps] at h
    obtain ⟨v, vr, rfl, h1, h2⟩ := h
    obtain ⟨u, a, b⟩ := Reps.get (i := i) (x := x) h2 (by simpa using e)
    exact ⟨u, by simpa using a, b⟩
theorem Owns.get : ∀ {xs : List D} {vs : List V} {i j : Nat} {x : D} {path : List Nat}, Owns K F H ω t xs path j vs → xs[i]? = some x → ∃ v, vs[i]? = some v ∧ Own K F H ω t x (path ++ [j + i]) v
  | [], _, _, _, _, _, _, e => by simp at e
  | y :: xs, _, 0, j, x, path, h, e => by
    rw [Owns] at h
    obtain ⟨v, vr, rfl, h1, h2⟩ := h
    obtain rfl : y = x := by simpa using e
    exact ⟨v, rfl, h1⟩
  | y :: xs, _, i + 1, j, x, path, h, e => by
    rw [Owns] at h
    obtain ⟨v, vr, rfl, h1, h2⟩ := h
    obtain ⟨u, a, b⟩ := Owns.get (i := i) (x := x) h2 (by simpa using e)
    exact ⟨u, by simpa using a, by rw [show j + (i + 1) = j + 1 + i by omega]; exact b⟩
theorem reps_append : ∀ {xs ys : List D} {vs us : List V}, Reps K F xs vs → Reps K F ys us → Reps K F (xs ++ ys) (vs ++ us)
  | [], _, _, _, h, g => by rw [Reps] at h; subst h; exact g
  | x :: xs, ys, _, us, h, g => by
    rw [Reps] at h
    obtain ⟨v, vr, rfl, h1, h2⟩ := h
    show Reps K F (x :: (xs ++ ys)) _
    rw [Reps]
    exact ⟨v, vr ++ us, rfl, h1, reps_append h2 g⟩
theorem owns_append : ∀ {xs ys : List D} {vs us : List V} {path : List Nat} {j : Nat}, Owns K F H ω t xs path j vs → Owns K F H ω t ys path (j + xs.length) us → Owns K F H ω t (xs ++ ys) path j (vs ++ us)
  | [], _, _, _, _, _, h, g => by rw [Owns] at h; subst h; exact g
  | x :: xs, ys, _, us, path, j, h, g => by
    rw [Owns] at h
    obtain ⟨v, vr, rfl, h1, h2⟩ := h
    show Owns K F H ω t (x :: (xs ++ ys)) path j _
    rw [Owns]
    exact ⟨v, vr ++ us, rfl, h1, owns_append h2 (by rw [show j + 1 + xs.length = j + (x :: xs).length by simp; omega]; exact g)⟩
theorem reps_nil : Reps K F [] [] := by rw [Reps]
theorem reps_one {x : D} {v : V} (h : Rep K F x v) : Reps K F [x] [v] := by
  rw [Reps]; exact ⟨v, [], rfl, h, reps_nil⟩
theorem reps_cons {x : D} {v : V} {xs : List D} {vs : List V} (h : Rep K F x v) (g : Reps K F xs vs) : Reps K F (x :: xs) (v :: vs) := by
  rw [Reps]; exact ⟨v, vs, rfl, h, g⟩
theorem reps_set : ∀ {xs : List D} {vs : List V} {i : Nat} {x : D} {v : V}, Reps K F xs vs → Rep K F x v → Reps K F (xs.set i x) (vs.set i v)
  | [], _, _, _, _, h, _ => by rw [Reps] at h; subst h; exact reps_nil
  | y :: xs, _, 0, x, v, h, g => by
    rw [Reps] at h
    obtain ⟨u, vr, rfl, h1, h2⟩ := h
    exact reps_cons g h2
  | y :: xs, _, i + 1, x, v, h, g => by
    rw [Reps] at h
    obtain ⟨u, vr, rfl, h1, h2⟩ := h
    exact reps_cons h1 (reps_set h2 g)
theorem reps_drop : ∀ {n : Nat} {xs : List D} {vs : List V}, Reps K F xs vs → Reps K F (xs.drop n) (vs.drop n)
  | 0, _, _, h => h
  | n + 1, [], _, h => by rw [Reps] at h; subst h; exact reps_nil
  | n + 1, x :: xs, _, h => by
    rw [Reps] at h
    obtain ⟨u, vr, rfl, h1, h2⟩ := h
    rw [List.drop_succ_cons, List.drop_succ_cons]
    exact reps_drop h2
theorem reps_take : ∀ {n : Nat} {xs : List D} {vs : List V}, Reps K F xs vs → Reps K F (xs.take n) (vs.take n)
  | 0, _, _, h => reps_nil
  | n + 1, [], _, h => by rw [Reps] at h; subst h; exact reps_nil
  | n + 1, x :: xs, _, h => by
    rw [Reps] at h
    obtain ⟨u, vr, rfl, h1, h2⟩ := h
    exact reps_cons h1 (reps_take h2)
end TI
set_option Elab.async false
set_option linter.all false
/-! TI2: the state of a walk: what the slots and the waiting values hold. -/
namespace TI
open PySem L2

abbrev Env := List (Option D)
/-- where a def's run began: the heap, its frozen part, the cells that the caller lent for writing -/
structure Base where
  H0 : Hp
  F0 : Hp
  io : Addr → Prop

structure Sta (K : PySem.W.Frag) (B : Base) (F : Hp) (ω : Om) (H : Hp) (σ : L2.St) (env : Env) (T : List (V × D)) : Prop where
  ex : Ex F H
  dis : ∀ a s, ω a = some s → F a = none
  trk : ∀ a s, ω a = some s → H a ≠ none
  len : env.length = σ.length
  slot : ∀ i d, env[i]? = some (some d) → ∃ v, σ[i]? = some (some v) ∧ Own K F H ω (0, i) d [] v
  temp : ∀ j v d, T[j]? = some (v, d) → Own K F H ω (1, j) d [] v
  low : ∀ a j q, ω a = some ((1, j), q) → j < T.length
  fr : ∀ a o, B.H0 a = some o → ¬ B.io a → H a = some o
  pF : ∀ a o, F a = some o → B.F0 a = some o ∨ B.io a ∨ B.H0 a = none
  pω : ∀ a s, ω a = some s → B.io a ∨ B.H0 a = none
  keep : Ex B.F0 F

/-- what only grows -/
structure Grow (F : Hp) (ω : Om) (H F' : Hp) (ω' : Om) (H' : Hp) : Prop where
  ex : Ex F F'
  cell : ∀ a s, ω a = some s → ω' a = some s ∧ H' a = H a

variable {K : PySem.W.Frag} {B : Base} {F F' H H' F2 H2 : Hp} {ω ω' ω2 : Om} {σ : L2.St} {env : Env} {T : List (V × D)} {p : Addr} {o : HO} {d : D} {v : V}
theorem Grow.refl : Grow F ω H F ω H := ⟨Evl.Ex.refl F, fun _ _ h => ⟨h, rfl⟩⟩
theorem Grow.trans (g : Grow F ω H F' ω' H') (g2 : Grow F' ω' H' F2 ω2 H2) : Grow F ω H F2 ω2 H2 :=
  ⟨g.ex.trans g2.ex, fun a s h => by
    obtain ⟨h1, h2⟩ := g.cell a s h
    obtain ⟨h3, h4⟩ := g2.cell a s h1
    exact ⟨h3, h4.trans h2⟩⟩
theorem Own.grow {t : Tag} {path : List Nat} (g : Grow F ω H F' ω' H') (h : Own K F H ω t d path v) : Own K F' H' ω' t d path v :=
  h.move g.ex fun a q ha => g.cell a _ ha
theorem Owns.grow {t : Tag} {path : List Nat} {xs : List D} {vs : List V} {j : Nat} (g : Grow F ω H F' ω' H') (h : Owns K F H ω t xs path j vs) : Owns K F' H' ω' t xs path j vs :=
  h.move g.ex fun a q ha => g.cell a _ ha

def updO (ω : Om) (p : Addr) (s : Option (Tag × List Nat)) : Om := fun a => if a = p then s else ω a
theorem updO_same {s : Option (Tag × List Nat)} : updO ω p s p = s := by unfold updO; rw [if_pos rfl]
theorem updO_ne {a : Addr} {s : Option (Tag × List Nat)} (h : a ≠ p) : updO ω p s a = ω a := by unfold updO; rw [if_neg h]

theorem Sta.newIo (S : Sta K B F ω H σ env T) (hp : H p = none) : B.io p ∨ B.H0 p = none := by
  by_cases hio : B.io p
  · exact .inl hio
  · right
    cases e : B.H0 p with
    | none => rfl
    | some o => rw [S.fr p o e hio] at hp; cases hp
theorem Sta.newF (S : Sta K B F ω H σ env T) (hp : H p = none) : F p = none := by
  cases e : F p with
  | none => rfl
  | some o => rw [S.ex p o e] at hp; cases hp
theorem Sta.newO (S : Sta K B F ω H σ env T) (hp : H p = none) : ω p = none := by
  cases e : ω p with
  | none => rfl
  | some s => exact absurd hp (S.trk p s e)
theorem ex_new {F : Hp} (h : F p = none) : Ex F (upd F p o) := Evl.Ex.new h

/-- a new frozen object -/
theorem Sta.newFrz (S : Sta K B F ω H σ env T) (hp : H p = none) : Sta K B (upd F p o) ω (upd H p o) σ env T ∧ Grow F ω H (upd F p o) ω (upd H p o) := by
  have g : Grow F ω H (upd F p o) ω (upd H p o) := ⟨ex_new (S.newF hp), fun a s h => ⟨h, by
    rw [upd_ne]; intro e; subst e; exact S.trk _ s h hp⟩⟩
  refine ⟨⟨?_, ?_, ?_, S.len, fun i d h => ?_, fun j v d h => (S.temp j v d h).grow g, S.low, ?_, ?_, S.pω, S.keep.trans g.ex⟩, g⟩
  · intro a u h
    by_cases e : a = p
    · subst e; rw [upd_same] at h ⊢; exact h
    · rw [upd_ne e] at h ⊢; exact S.ex a u h
  · intro a s h
    have e : a ≠ p := by intro e; subst e; exact S.trk _ s h hp
    rw [upd_ne e]; exact S.dis a s h
  · intro a s h
    have e : a ≠ p := by intro e; subst e; exact S.trk _ s h hp
    rw [upd_ne e]; exact S.trk a s h
  · obtain ⟨v, h1, h2⟩ := S.slot i d h
    exact ⟨v, h1, h2.grow g⟩
  · intro a u h1 h2
    by_cases e : a = p
    · subst e; rw [S.fr _ u h1 h2] at hp; cases hp
    · rw [upd_ne e]; exact S.fr a u h1 h2
  · intro a u h
    by_cases e : a = p
    · subst e; exact .inr (S.newIo hp)
    · rw [upd_ne e] at h; exact S.pF a u h
/-- a new owned object, waiting -/
theorem Sta.newOwn (S : Sta K B F ω H σ env T) (hp : H p = none) (hd : ∀ (H' : Hp) (ω' : Om), H' p = some o → ω' p = some ((1, T.length), []) → Own K F H' ω' (1, T.length) d [] (.ref p)) :
    Sta K B F (updO ω p (some ((1, T.length), []))) (upd H p o) σ env (T ++ [(.ref p, d)]) ∧ Grow F ω H F (updO ω p (some ((1, T.length), []))) (upd H p o) := by
  have ne : ∀ a s, ω a = some s → a ≠ p := fun a s h e => by subst e; exact S.trk _ s h hp
  have g : Grow F ω H F (updO ω p (some ((1, T.length), []))) (upd H p o) := ⟨Evl.Ex.refl F, fun a s h => ⟨by rw [updO_ne (ne a s h)]; exact h, by rw [upd_ne (ne a s h)]⟩⟩
  refine ⟨⟨?_, ?_, ?_, S.len, fun i d h => ?_, ?_, ?_, ?_, S.pF, ?_, S.keep⟩, g⟩
  · intro a u h
    have e : a ≠ p := by intro e; subst e; rw [S.newF hp] at h; cases h
    rw [upd_ne e]; exact S.ex a u h
  · intro a s h
    by_cases e : a = p
    · subst e; exact S.newF hp
    · rw [updO_ne e] at h; exact S.dis a s h
  · intro a s h
    by_cases e : a = p
    · subst e; rw [upd_same]; intro z; cases z
    · rw [updO_ne e] at h; rw [upd_ne e]; exact S.trk a s h
  · obtain ⟨v, h1, h2⟩ := S.slot i d h
    exact ⟨v, h1, h2.grow g⟩
  · intro j v d' h
    by_cases hj : j < T.length
    · rw [List.getElem?_append_left hj] at h
      exact (S.temp j v d' h).grow g
    · rw [List.getElem?_append_right (by omega)] at h
      have : j - T.length = 0 := by
        by_cases z : j - T.length = 0
        · exact z
        · rw [List.getElem?_eq_none (by simp; omega)] at h; cases h
      rw [this] at h
      have ej : j = T.length := by omega
      obtain ⟨rfl, rfl⟩ : V.ref p = v ∧ d = d' := by simpa using h
      rw [ej]
      exact hd _ _ upd_same updO_same
  · intro a j q h
    by_cases e : a = p
    · subst e; rw [updO_same] at h; simp at h; simp; omega
    · rw [updO_ne e] at h
      have := S.low a j q h
      simp; omega
  · intro a u h1 h2
    by_cases e : a = p
    · subst e; rw [S.fr _ u h1 h2] at hp; cases hp
    · rw [upd_ne e]; exact S.fr a u h1 h2
  · intro a s h
    by_cases e : a = p
    · subst e; exact S.newIo hp
    · rw [updO_ne e] at h; exact S.pω a s h
/-- frozen data waits -/
theorem Sta.push (S : Sta K B F ω H σ env T) (h : Rep K F d v) : Sta K B F ω H σ env (T ++ [(v, d)]) := by
  refine ⟨S.ex, S.dis, S.trk, S.len, S.slot, fun j u d' e => ?_, fun a j q e => ?_, S.fr, S.pF, S.pω, S.keep⟩
  · by_cases hj : j < T.length
    · rw [List.getElem?_append_left hj] at e
      exact S.temp j u d' e
    · rw [List.getElem?_append_right (by omega)] at e
      have z : j - T.length = 0 := by
        by_cases z : j - T.length = 0
        · exact z
        · rw [List.getElem?_eq_none (by simp; omega)] at e; cases e
      rw [z] at e
      obtain ⟨rfl, rfl⟩ : v = u ∧ d = d' := by simpa using e
      exact h.own
  · have := S.low a j q e
    simp; omega
/-- the last waiting value is let go -/
theorem Sta.pop {x : V × D} (S : Sta K B F ω H σ env (T ++ [x])) : ∃ ω', Sta K B F ω' H σ env T ∧ (∀ a s, ω a = some s → s.1 ≠ (1, T.length) → ω' a = some s) := by
  have key : ∀ a s, (fun a => if (ω a).map (·.1) = some (1, T.length) then none else ω a) a = some s → ω a = some s ∧ s.1 ≠ (1, T.length) := fun a s h => by
    simp only at h
    split at h
    · cases h
    · rename_i hn
      refine ⟨h, fun z => hn ?_⟩
      rw [h, ← z]; rfl
  have back : ∀ a s, ω a = some s → s.1 ≠ (1, T.length) → (fun a => if (ω a).map (·.1) = some (1, T.length) then none else ω a) a = some s := fun a s h z => by
    simp only
    rw [if_neg]
    · exact h
    · rw [h]; intro q; exact z (by simpa using q)
  refine ⟨fun a => if (ω a).map (·.1) = some (1, T.length) then none else ω a, ⟨S.ex, fun a s h => S.dis a s (key a s h).1, fun a s h => S.trk a s (key a s h).1, S.len, fun i d h => ?_, fun j v d h => ?_, fun a j q h => ?_, S.fr, S.pF, fun a s h => S.pω a s (key a s h).1, S.keep⟩, back⟩
  · obtain ⟨v, h1, h2⟩ := S.slot i d h
    exact ⟨v, h1, h2.move (Evl.Ex.refl F) fun a q ha => ⟨back a _ ha (by simp), rfl⟩⟩
  · have hj : j < T.length := (List.getElem?_eq_some_iff.mp h).1
    refine (S.temp j v d (by rw [List.getElem?_append_left hj]; exact h)).move (Evl.Ex.refl F) fun a q ha => ⟨back a _ ha ?_, rfl⟩
    intro z
    have z2 := congrArg Prod.snd z
    simp only at z2
    omega
  · obtain ⟨h1, h2⟩ := key a _ h
    have := S.low a j q h1
    simp at this
    by_cases e : j = T.length
    · subst e; exact absurd rfl h2
    · omega
/-- the last waiting value is frozen -/
theorem Sta.freeze (S : Sta K B F ω H σ env (T ++ [(v, d)])) : ∃ F' ω', Sta K B F' ω' H σ env T ∧ Rep K F' (fz d) v ∧ Ex F F' ∧ (∀ a s, ω a = some s → s.1 ≠ (1, T.length) → ω' a = some s) := by
  let F1 : Hp := fun a => if (ω a).map (·.1) = some (1, T.length) then H a else F a
  have eF : ∀ a s, ω a = some s → s.1 = (1, T.length) → F1 a = H a := fun a s h z => by
    show (if _ then _ else _) = _
    rw [if_pos]; rw [h, ← z]; rfl
  have nF : ∀ a, (ω a).map (·.1) ≠ some (1, T.length) → F1 a = F a := fun a h => if_neg h
  have exF : Ex F F1 := fun a u h => by
    by_cases z : (ω a).map (·.1) = some (1, T.length)
    · cases e : ω a with
      | none => rw [e] at z; cases z
      | some s => rw [S.dis a s e] at h; cases h
    · rw [nF a z]; exact h
  have S1 : Sta K B F1 (fun a => if (ω a).map (·.1) = some (1, T.length) then none else ω a) H σ env T := by
    have key : ∀ a s, (fun a => if (ω a).map (·.1) = some (1, T.length) then none else ω a) a = some s → ω a = some s ∧ (ω a).map (·.1) ≠ some (1, T.length) := fun a s h => by
      simp only at h
      split at h
      · cases h
      · rename_i hn
        exact ⟨h, hn⟩
    have back : ∀ a s, ω a = some s → s.1 ≠ (1, T.length) → (fun a => if (ω a).map (·.1) = some (1, T.length) then none else ω a) a = some s := fun a s h z => by
      simp only
      rw [if_neg]
      · exact h
      · rw [h]; intro q; exact z (by simpa using q)
    refine ⟨fun a u h => ?_, fun a s h => ?_, fun a s h => S.trk a s (key a s h).1, S.len, fun i d h => ?_, fun j v d h => ?_, fun a j q h => ?_, S.fr, fun a u h => ?_, fun a s h => S.pω a s (key a s h).1, S.keep.trans exF⟩
    · by_cases z : (ω a).map (·.1) = some (1, T.length)
      · rw [show F1 a = H a from if_pos z] at h; exact h
      · rw [nF a z] at h; exact S.ex a u h
    · rw [nF a (key a s h).2]; exact S.dis a s (key a s h).1
    · obtain ⟨v, h1, h2⟩ := S.slot i d h
      exact ⟨v, h1, h2.move exF fun a q ha => ⟨back a _ ha (by simp), rfl⟩⟩
    · have hj : j < T.length := (List.getElem?_eq_some_iff.mp h).1
      refine (S.temp j v d (by rw [List.getElem?_append_left hj]; exact h)).move exF fun a q ha => ⟨back a _ ha ?_, rfl⟩
      intro z
      have z2 := congrArg Prod.snd z
      simp only at z2
      omega
    · obtain ⟨h1, h2⟩ := key a _ h
      have := S.low a j q h1
      simp at this
      by_cases e : j = T.length
      · subst e; rw [h1] at h2; exact absurd rfl h2
      · omega
    · by_cases z : (ω a).map (·.1) = some (1, T.length)
      · cases e : ω a with
        | none => rw [e] at z; cases z
        | some s => exact .inr (S.pω a s e)
      · rw [nF a z] at h; exact S.pF a u h
  refine ⟨F1, _, S1, ?_, exF, fun a s h z => ?_⟩
  · have ho := S.temp T.length v d (by simp)
    exact ho.freeze exF fun a q ha => eF a _ ha rfl
  · rw [if_neg]
    · exact h
    · rw [h]; intro q; exact z (by simpa using q)
/-- freezing, told by what grew since an earlier state -/
theorem Sta.freezeG {F0 H0 : Hp} {ω0 : Om} (S : Sta K B F ω H σ env (T ++ [(v, d)])) (low : ∀ a j q, ω0 a = some ((1, j), q) → j < T.length) (g : Grow F0 ω0 H0 F ω H) :
    ∃ F' ω', Sta K B F' ω' H σ env T ∧ Rep K F' (fz d) v ∧ Grow F0 ω0 H0 F' ω' H := by
  obtain ⟨F', ω', S', r, e, k⟩ := S.freeze
  refine ⟨F', ω', S', r, g.ex.trans e, fun a s h => ?_⟩
  obtain ⟨h1, h2⟩ := g.cell a s h
  refine ⟨k a s h1 ?_, h2⟩
  intro z
  obtain ⟨⟨s1, s2⟩, q⟩ := s
  simp at z
  obtain ⟨rfl, rfl⟩ := z
  exact absurd (low a _ _ h) (Nat.lt_irrefl _)
/-- letting go, told by what grew since an earlier state -/
theorem Sta.popG {F0 H0 : Hp} {ω0 : Om} {x : V × D} (S : Sta K B F ω H σ env (T ++ [x])) (low : ∀ a j q, ω0 a = some ((1, j), q) → j < T.length) (g : Grow F0 ω0 H0 F ω H) :
    ∃ ω', Sta K B F ω' H σ env T ∧ Grow F0 ω0 H0 F ω' H := by
  obtain ⟨ω', S', k⟩ := S.pop
  refine ⟨ω', S', g.ex, fun a s h => ?_⟩
  obtain ⟨h1, h2⟩ := g.cell a s h
  refine ⟨k a s h1 ?_, h2⟩
  intro z
  obtain ⟨⟨s1, s2⟩, q⟩ := s
  simp at z
  obtain ⟨rfl, rfl⟩ := z
  exact absurd (low a _ _ h) (Nat.lt_irrefl _)
/-- the slots' claims may be weakened -/
theorem Sta.weak {env' : Env} (S : Sta K B F ω H σ env T) (hl : env'.length = env.length) (h : ∀ (i : Nat) (d : D), env'[i]? = some (some d) → env[i]? = some (some d)) : Sta K B F ω H σ env' T :=
  ⟨S.ex, S.dis, S.trk, hl.trans S.len, fun i d e => S.slot i d (h i d e), S.temp, S.low, S.fr, S.pF, S.pω, S.keep⟩
/-- the only waiting value goes to a slot -/
theorem Sta.store {i : Nat} (S : Sta K B F ω H σ env [(v, d)]) (hi : i < σ.length) : ∃ ω', Sta K B F ω' H (σ.set i (some v)) (env.set i (some d)) [] := by
  let ω1 : Om := fun a => match ω a with
    | some ((1, 0), q) => some ((0, i), q)
    | some ((0, j), q) => if j = i then none else some ((0, j), q)
    | _ => none
  have fwd : ∀ a s, ω1 a = some s → ∃ s', ω a = some s' := fun a s h => by
    cases e : ω a with
    | none => simp only [ω1, e] at h; cases h
    | some s' => exact ⟨s', rfl⟩
  refine ⟨ω1, ⟨S.ex, fun a s h => ?_, fun a s h => ?_, by simp [S.len], fun j d' h => ?_, fun j v d h => by simp at h, fun a j q h => ?_, S.fr, S.pF, fun a s h => ?_, S.keep⟩⟩
  · obtain ⟨s', e⟩ := fwd a s h; exact S.dis a s' e
  · obtain ⟨s', e⟩ := fwd a s h; exact S.trk a s' e
  · by_cases hj : j = i
    · subst hj
      have hle : j < env.length := by rw [S.len]; exact hi
      rw [List.getElem?_set_self hle] at h
      obtain rfl : d = d' := by simpa using h
      refine ⟨v, by rw [List.getElem?_set_self hi], ?_⟩
      exact (S.temp 0 v d rfl).move (Evl.Ex.refl F) fun a q ha => ⟨by simp only [ω1, ha], rfl⟩
    · rw [List.getElem?_set_ne (Ne.symm hj)] at h
      obtain ⟨u, h1, h2⟩ := S.slot j d' h
      refine ⟨u, by rw [List.getElem?_set_ne (Ne.symm hj)]; exact h1, ?_⟩
      exact h2.move (Evl.Ex.refl F) fun a q ha => ⟨by simp only [ω1, ha]; rw [if_neg hj], rfl⟩
  · exfalso
    cases e : ω a with
    | none => simp only [ω1, e] at h; cases h
    | some s' =>
      obtain ⟨⟨x, y⟩, z⟩ := s'
      have h : ω1 a = some ((1, j), q) := h
      simp only [ω1, e] at h
      split at h
      · simp at h
      · split at h <;> simp at h
      · cases h
  · obtain ⟨s', e⟩ := fwd a s h; exact S.pω a s' e
/-- a slot's tree is frozen -/
theorem Sta.frzSlot {i : Nat} (S : Sta K B F ω H σ env T) (h : env[i]? = some (some d)) : ∃ F' ω', Sta K B F' ω' H σ (env.set i (some (fz d))) T ∧ Ex F F' := by
  let F1 : Hp := fun a => if (ω a).map (·.1) = some (0, i) then H a else F a
  let ω1 : Om := fun a => if (ω a).map (·.1) = some (0, i) then none else ω a
  have eF : ∀ a s, ω a = some s → s.1 = (0, i) → F1 a = H a := fun a s h z => by
    show (if _ then _ else _) = _
    rw [if_pos]; rw [h, ← z]; rfl
  have nF : ∀ a, (ω a).map (·.1) ≠ some (0, i) → F1 a = F a := fun a h => if_neg h
  have exF : Ex F F1 := fun a u h => by
    by_cases z : (ω a).map (·.1) = some (0, i)
    · cases e : ω a with
      | none => rw [e] at z; cases z
      | some s => rw [S.dis a s e] at h; cases h
    · rw [nF a z]; exact h
  have key : ∀ a s, ω1 a = some s → ω a = some s ∧ (ω a).map (·.1) ≠ some (0, i) := fun a s h => by
    simp only [ω1] at h
    split at h
    · cases h
    · rename_i hn
      exact ⟨h, hn⟩
  have back : ∀ a s, ω a = some s → s.1 ≠ (0, i) → ω1 a = some s := fun a s h z => by
    simp only [ω1]
    rw [if_neg]
    · exact h
    · rw [h]; intro q; exact z (by simpa using q)
  refine ⟨F1, ω1, ⟨fun a u h => ?_, fun a s h => ?_, fun a s h => S.trk a s (key a s h).1, by simp [S.len], fun j d' hj => ?_, fun j v d h => ?_, fun a j q h => S.low a j q (key a _ h).1, S.fr, fun a u h => ?_, fun a s h => S.pω a s (key a s h).1, S.keep.trans exF⟩, exF⟩
  · by_cases z : (ω a).map (·.1) = some (0, i)
    · rw [show F1 a = H a from if_pos z] at h; exact h
    · rw [nF a z] at h; exact S.ex a u h
  · rw [nF a (key a s h).2]; exact S.dis a s (key a s h).1
  · by_cases e : j = i
    · subst e
      have hle : j < env.length := (List.getElem?_eq_some_iff.mp h).1
      rw [List.getElem?_set_self hle] at hj
      obtain rfl : fz d = d' := by simpa using hj
      obtain ⟨v, h1, h2⟩ := S.slot j d h
      exact ⟨v, h1, (h2.freeze exF fun a q ha => eF a _ ha rfl).own⟩
    · rw [List.getElem?_set_ne (Ne.symm e)] at hj
      obtain ⟨v, h1, h2⟩ := S.slot j d' hj
      exact ⟨v, h1, h2.move exF fun a q ha => ⟨back a _ ha (by simp; exact e), rfl⟩⟩
  · exact (S.temp j v d h).move exF fun a q ha => ⟨back a _ ha (by simp), rfl⟩
  · by_cases z : (ω a).map (·.1) = some (0, i)
    · cases e : ω a with
      | none => rw [e] at z; cases z
      | some s => exact .inr (S.pω a s e)
    · rw [nF a z] at h; exact S.pF a u h
end TI
set_option Elab.async false
set_option linter.all false
/-! TI3: the code, what it reckons (trees of data), and how it is matched with the text. -/
namespace TI
open PySem L2

structure Exn where
  cls : Str
  arg : Option D

inductive R (α : Type) where
  | ok (a : α) | exc (x : Exn) | fail
def R.bind {α β : Type} : R α → (α → R β) → R β
  | .ok a, f => f a
  | .exc x, _ => .exc x
  | .fail, _ => .fail
instance : Monad R where
  pure := R.ok
  bind := R.bind
@[simp] theorem ok_bind {α β : Type} (a : α) (f : α → R β) : (R.ok a >>= f) = f a := rfl
@[simp] theorem exc_bind {α β : Type} (x : Exn) (f : α → R β) : (R.exc x >>= f) = R.exc x := rfl
@[simp] theorem fail_bind {α β : Type} (f : α → R β) : (R.fail >>= f) = R.fail := rfl
@[simp] theorem pure_ok {α : Type} (a : α) : (pure a : R α) = R.ok a := rfl
def R.noX {α : Type} : R α → R α
  | .exc _ => .fail
  | r => r
@[simp] theorem noX_ok {α : Type} (a : α) : (R.ok a).noX = R.ok a := rfl
def gd (c : Bool) : R Unit := if c = true then .ok () else .fail
@[simp] theorem gd_true : gd true = .ok () := rfl
@[simp] theorem gd_false : gd false = .fail := rfl
def ofO {α : Type} : Option α → R α
  | some a => .ok a
  | none => .fail
@[simp] theorem ofO_some {α : Type} (a : α) : ofO (some a) = R.ok a := rfl
@[simp] theorem ofO_none {α : Type} : ofO (none : Option α) = R.fail := rfl

/-- the largest length that is reckoned with -/
def lim : Nat := 1000000

inductive Bi where
  | abs | max2 | min2 | int | list | tuple | str
  deriving DecidableEq

inductive Ty where
  | int | bool | list | tuple
  deriving DecidableEq
def tyN : Ty → String
  | .int => "int" | .bool => "bool" | .list => "list" | .tuple => "tuple"
/-- frozen, owned (a list made at the top stays owned), borrowed (the value where it stands) -/
inductive M where
  | f | o | b
  deriving DecidableEq
/-- the mode of a comprehension's items -/
def em : M → M
  | .o => .o
  | _ => .f
/-- a target: a name's slot, or a tuple of names -/
inductive CT where
  | one (i : Nat) | many (is : List Nat)
mutual
inductive CE where
  | var (i : Nat)
  | gc (x : Str)
  | int (n : Int) | bl (b : Bool) | non | str (s : Str)
  | bin (op : Operator) (a b : CE)
  | neg (a : CE)
  | cmp (op : CmpOp) (a b : CE)
  | chn (op op' : CmpOp) (a b c : CE)
  | bo (k : Bool) (es : CEs)
  | no (a : CE)
  | ite (t : CB) (a b : CE)
  | ix (a b : CE)
  | sl (a : CE) (lo hi : CO)
  | rev (a : CE)
  | len (a : CE)
  | lst (es : CEs)
  | tup (es : CEs)
  | call (g : Nat) (es : CEs)
  | bi (b : Bi) (es : CEs)
  | rngl (a : CE)
  | dnew (t : Bool)
  | din (neg : Bool) (k d : CE)
  | isi (T : Ty) (a : CE)
  | lset (a : CE)
  | tcount (a b : CE)
  | lidx (a b : CE)
  | callb (g : Nat) (es : CEs)
  | listb (a : CE)
  | isb (neg : Bool) (a : CE)
  | comp (tg : CT) (it : CI) (hc : Bool) (cond : CB) (e : CE)
inductive CEs where
  | nil | cons (e : CE) (es : CEs)
inductive CO where
  | none | some (e : CE)
/-- tests: a value that is a truth; not; and (true), or (false) -/
inductive CB where
  | val (e : CE) | no (t : CB) | bo (k : Bool) (ts : CBs)
inductive CBs where
  | nil | cons (t : CB) (ts : CBs)
/-- what is walked -/
inductive CI where
  | ex (e : CE) | rng1 (a : CE) | rng2 (a b : CE) | enum (e : CE) | zip (a b : CE)
end

/-! ### values -/
mutual
def toPy : D → PyData
  | .non => .none
  | .bl b => .bool b
  | .int i => .int i
  | .str s => .str s
  | .scr ns => .list (ns.map .int)
  | .lst _ xs => .list (toPys xs)
  | .tup xs => .tuple (toPys xs)
  | .dK _ _ _ => .dict []
  | .dT _ _ => .dict []
  | .pr _ => .dict []
def toPys : List D → List PyData
  | [] => []
  | x :: xs => toPy x :: toPys xs
end

def rep (k : Nat) (xs : List D) : List D := (List.replicate k xs).flatten

def binD (op : Operator) (o : Bool) (x y : D) : R D :=
  match op, x, y with
  | .Add, .int a, .int b => .ok (.int (a + b))
  | .Add, .str a, .str b => do gd (decide (a.length + b.length ≤ lim)); .ok (.str (a ++ b))
  | .Add, .lst _ xs, .lst _ ys => do gd (decide (xs.length + ys.length ≤ lim)); .ok (.lst o (xs ++ ys))
  | .Add, .tup xs, .tup ys => do gd (decide (xs.length + ys.length ≤ lim)); .ok (.tup (xs ++ ys))
  | .Sub, .int a, .int b => .ok (.int (a - b))
  | .Mult, .int a, .int b => do gd (decide (a.natAbs < 2 ^ 64 ∨ b.natAbs < 2 ^ 64)); .ok (.int (a * b))
  | .Mult, .lst _ xs, .int k => do gd (decide (k.natAbs < 2 ^ 63 ∧ xs.length * k.toNat ≤ lim)); .ok (.lst o (rep k.toNat xs))
  | .FloorDiv, .int a, .int b => do gd (decide (b ≠ 0 ∧ b.natAbs < 1073741824)); .ok (.int (a.fdiv b))
  | .Mod, .int a, .int b => do gd (decide (b ≠ 0)); .ok (.int (a.fmod b))
  | .Pow, .int a, .int b => do gd (decide (0 ≤ b ∧ b ≤ 1000000 ∧ a.natAbs < 2 ^ 64)); .ok (.int (a ^ b.toNat))
  | _, _, _ => .fail

def eqD (x y : D) : R Bool :=
  match x, y with
  | .int i, .int j => .ok (decide (i = j))
  | .str i, .str j => .ok (decide (i = j))
  | .bl i, .bl j => .ok (decide (i = j))
  | x, y => do gd (isF x && isF y && SeqAt.shaped (toPy x) && SeqAt.shaped (toPy y)); .ok (PyData.eqv (toPy x) (toPy y))

def flatD : D → Bool
  | .non => true | .bl _ => true | .int _ => true | .str _ => true | _ => false
def toV : D → V
  | .non => .non | .bl b => .bl b | .int i => .int i | .str s => .str s | _ => .non
def inD (x : D) (xs : List D) : Bool := xs.any fun y => eqV (toV y) (toV x)

/-- the items of a list or tuple -/
def itemsD : D → R (List D)
  | .lst _ xs => .ok xs
  | .tup xs => .ok xs
  | .scr ns => .ok (ns.map .int)
  | _ => .fail

def isNon : D → Bool
  | .non => true
  | _ => false
def cmpD (op : CmpOp) (x y : D) : R D :=
  match op, x, y with
  | .Lt, .int a, .int b => .ok (.bl (decide (a < b)))
  | .LtE, .int a, .int b => .ok (.bl (decide (a ≤ b)))
  | .Gt, .int a, .int b => .ok (.bl (decide (b < a)))
  | .GtE, .int a, .int b => .ok (.bl (decide (b ≤ a)))
  | .Eq, x, y => do let b ← eqD x y; .ok (.bl b)
  | .NotEq, x, y => do let b ← eqD x y; .ok (.bl (!b))
  | .Is, .bl a, .bl b => .ok (.bl (decide (a = b)))
  | .IsNot, .bl a, .bl b => .ok (.bl (!decide (a = b)))
  | .Is, x, .non => .ok (.bl (isNon x))
  | .IsNot, x, .non => .ok (.bl (!isNon x))
  | .In, x, y => do let ys ← itemsD y; gd (flatD x && ys.all flatD); .ok (.bl (inD x ys))
  | .NotIn, x, y => do let ys ← itemsD y; gd (flatD x && ys.all flatD); .ok (.bl (!inD x ys))
  | _, _, _ => .fail

def itemsL : D → R (List D)
  | .lst _ xs => .ok xs
  | .tup xs => .ok xs
  | .scr ns => .ok (ns.map .int)
  | _ => .fail
def lenD : D → R D
  | .lst _ xs => .ok (.int xs.length)
  | .tup xs => .ok (.int xs.length)
  | .scr xs => .ok (.int xs.length)
  | .str s => do gd (decide (s.length ≤ lim)); .ok (.int s.length)
  | _ => .fail

def ixD (x y : D) : R D :=
  match x, y with
  | .lst _ xs, .int i => ofO (atI xs i)
  | .tup xs, .int i => ofO (atI xs i)
  | .scr xs, .int i => do let n ← ofO (atI xs i); .ok (.int n)
  | .str s, .int i => do gd (decide (s.length ≤ lim)); let c ← ofO (atI s.cps.toList i); .ok (.str ⟨#[c]⟩)
  | _, _ => .fail

def cutL {α : Type} (xs : List α) (lo hi : Option Int) : List α := (xs.drop (HT.sIx xs.length 0 lo)).take (HT.sIx xs.length xs.length hi - HT.sIx xs.length 0 lo)
def slD (o : Bool) (x : D) (lo hi : Option Int) : R D :=
  match x with
  | .lst _ xs => .ok (.lst o (cutL xs lo hi))
  | .tup xs => .ok (.tup (cutL xs lo hi))
  | .scr xs => .ok (.lst o ((cutL xs lo hi).map .int))
  | .str s => do gd (decide (s.length ≤ lim)); .ok (.str ⟨(cutL s.cps.toList lo hi).toArray⟩)
  | _ => .fail
def revD (o : Bool) : D → R D
  | .lst _ xs => .ok (.lst o xs.reverse)
  | .tup xs => .ok (.tup xs.reverse)
  | _ => .fail

def biD (b : Bi) (o : Bool) (ds : List D) : R D :=
  match b, ds with
  | .abs, [.int i] => .ok (.int (if i < 0 then -i else i))
  | .max2, [.int i, .int j] => .ok (.int (if j > i then j else i))
  | .min2, [.int i, .int j] => .ok (.int (if j < i then j else i))
  | .int, [.int i] => .ok (.int i)
  | .int, [.bl b] => .ok (.int (if b then 1 else 0))
  | .list, [.lst _ xs] => .ok (.lst o xs)
  | .list, [.tup xs] => .ok (.lst o xs)
  | .list, [.scr ns] => .ok (.lst o (ns.map .int))
  | .tuple, [.lst _ xs] => .ok (.tup xs)
  | .tuple, [.tup xs] => .ok (.tup xs)
  | .str, [.int i] => do gd (decide (i.natAbs.log2 < 1920)); .ok (.str (toString i))
  | _, _ => .fail

def intsD : List D → Option (List Int)
  | [] => some []
  | .int i :: r => (intsD r).map (i :: ·)
  | _ => none
def hasK (ks : List (List Int)) (k : List Int) : Bool := ks.any fun z => decide (z = k)
def dinD (neg : Bool) (k d : D) : R D :=
  match k, d with
  | .tup xs, .dT _ ks => do let q ← ofO (intsD xs); .ok (.bl (if neg = true then !hasK ks q else hasK ks q))
  | _, _ => .fail

def isiD (T : Ty) (d : D) : R Bool :=
  match d with
  | .non => .ok false
  | .int _ => .ok (decide (T = .int))
  | .bl _ => .ok (decide (T = .int) || decide (T = .bool))
  | .lst false _ => .ok (decide (T = .list))
  | .tup _ => .ok (decide (T = .tuple))
  | _ => .fail

def lsetD (d : D) : R D := match d with
  | .tup xs => do let ns ← ofO (intsD xs); gd (decide (ns.length ≤ 4000)); .ok (.int (nodupN ns))
  | _ => .fail
def asTup : D → R (List D)
  | .tup xs => .ok xs
  | _ => .fail
def tcountD (xs : List D) (y : D) : R D := match y with
  | .int k => do let ns ← ofO (intsD xs); .ok (.int (ns.count k))
  | _ => .fail
/-- the first place of k -/
def idxI (k : Int) : List Int → Option Nat
  | [] => none
  | x :: r => if x = k then some 0 else (idxI k r).map (· + 1)
def lidxD (x y : D) : R D := match x, y with
  | .lst _ xs, .int k => do let ns ← ofO (intsD xs); let j ← ofO (idxI k ns); .ok (.int (j : Nat))
  | _, _ => .fail

def getv : Env → Nat → R D
  | some d :: _, 0 => .ok d
  | none :: _, 0 => .fail
  | _ :: e, n + 1 => getv e n
  | [], _ => .fail
theorem getv_ok : ∀ {env : Env} {i : Nat} {d : D}, getv env i = .ok d → env[i]? = some (some d)
  | some _ :: _, 0, _, h => by cases h; rfl
  | none :: _, 0, _, h => by cases h
  | _ :: e, n + 1, d, h => by
    rw [getv] at h
    rw [List.getElem?_cons_succ]
    exact getv_ok h
  | [], n, _, h => by cases n <;> cases h
/-- names forgotten -/
def wipeE (env : Env) : List Nat → Env
  | [] => env
  | v :: vs => (wipeE env vs).set v none
def rngD (lo : Int) (n : Nat) : List D := (List.range n).map fun i => .int (lo + (i : Nat))
def bindT (tg : CT) (x : D) (env : Env) : R Env :=
  match tg, x with
  | .one i, x => .ok (env.set i (some x))
  | .many is, .tup xs => bindM is xs env
  | .many is, .pr xs => bindM is xs env
  | .many _, _ => .fail
where bindM : List Nat → List D → Env → R Env
  | [], [], env => .ok env
  | i :: is, x :: xs, env => bindM is xs (env.set i (some x))
  | _, _, _ => .fail
def slotsT : CT → List Nat
  | .one i => [i]
  | .many is => is
def compL (f : D → R (Option D)) : List D → R (List D)
  | [] => .ok []
  | x :: xs => do
    match ← f x with
    | none => compL f xs
    | some y => do
      let r ← compL f xs
      .ok (y :: r)
def compR (o : Bool) (ds : List D) : R D := do gd (decide (ds.length ≤ lim)); .ok (.lst o ds)
def enumD (xs : List D) : List D := (xs.zipIdx 0).map fun p => .pr [.int p.2, p.1]
def zipD (xs ys : List D) : List D := (xs.zip ys).map fun p => .pr [p.1, p.2]

/-- all children frozen -/
def kidsF : D → Bool
  | .lst _ xs => isFs xs
  | .tup xs => isFs xs
  | .dK _ _ xs => isFs xs
  | _ => true
def isStr : D → Bool
  | .str _ => true
  | _ => false
def isBl (d : D) : R Bool := match d with
  | .bl b => .ok b
  | _ => .fail
@[simp] theorem isBl_bl (b : Bool) : isBl (.bl b) = .ok b := rfl
def isInt (d : D) : R Int := match d with
  | .int b => .ok b
  | _ => .fail
@[simp] theorem isInt_int (b : Int) : isInt (.int b) = .ok b := rfl
def gM (m : M) (d : D) : R Unit := match m with
  | .b => .ok ()
  | _ => gd (isF d)
def enumI (d : D) : R (List D) := match d with
  | .lst _ xs => .ok (enumD xs)
  | _ => .fail
def zipI (x y : D) : R (List D) := match x, y with
  | .lst _ xs, .lst _ ys => .ok (zipD xs ys)
  | .tup xs, .tup ys => .ok (zipD xs ys)
  | _, _ => .fail

section
variable (Φ : Nat → List D → R D) (cst : Str → Option D)
mutual
/-- the value -/
def evX (m : M) : CE → Env → R D
  | .var i, env => do let d ← getv env i; gM m d; .ok d
  | .gc x, _ => ofO (cst x)
  | .int n, _ => .ok (.int n)
  | .bl b, _ => .ok (.bl b)
  | .non, _ => .ok .non
  | .str s, _ => .ok (.str s)
  | .bin op a b, env => do let x ← evX .f a env; let y ← evX .f b env; binD op (m == .o) x y
  | .neg a, env => do let x ← evX .f a env; let i ← isInt x; .ok (.int (-i))
  | .cmp op a b, env => do let x ← evX .f a env; let y ← evX .b b env; cmpD op x y
  | .chn op op' a b c, env => do
    let x ← evX .f a env
    let y ← evX .f b env
    let d ← cmpD op x y
    let t ← isBl d
    if t = true then do let z ← evX .f c env; cmpD op' y z else .ok (.bl false)
  | .bo k es, env => evBV k es env
  | .no a, env => do let x ← evX .f a env; let b ← isBl x; .ok (.bl (!b))
  | .ite t a b, env => do let c ← evT t env; if c = true then evX .f a env else evX .f b env
  | .ix a b, env => do let x ← evX .b a env; let y ← evX .f b env; let d ← ixD x y; gM m d; .ok d
  | .sl a lo hi, env => do let x ← evX .b a env; gd (kidsF x && !isStr x); let l ← evO lo env; let h ← evO hi env; slD (m == .o) x l h
  | .rev a, env => do let x ← evX .f a env; revD (m == .o) x
  | .len a, env => do let x ← evX .b a env; lenD x
  | .lst es, env => do let ds ← evs es env; gd (decide (ds.length ≤ lim)); .ok (.lst (m == .o) ds)
  | .tup es, env => do let ds ← evs es env; gd (decide (ds.length ≤ lim)); .ok (.tup ds)
  | .call g es, env => do let ds ← evs es env; let d ← Φ g ds; .ok (if m = .o then d else fz d)
  | .bi b es, env => do let ds ← evs es env; biD b (m == .o) ds
  | .rngl a, env => do
    let x ← evX .f a env
    let n ← isInt x
    gd (decide (n.natAbs < 2 ^ 62 ∧ n.toNat ≤ lim))
    .ok (.lst (m == .o) (rngD 0 n.toNat))
  | .dnew t, _ => .ok (if t = true then .dT (m == .o) [] else .dK (m == .o) [] [])
  | .din neg k d, env => do let x ← evX .f k env; let y ← evX .b d env; dinD neg x y
  | .isi T a, env => do let x ← evX .f a env; let b ← isiD T x; .ok (.bl b)
  | .lset a, env => do let x ← evX .f a env; lsetD x
  | .tcount a b, env => do let x ← evX .f a env; let xs ← asTup x; let y ← evX .f b env; tcountD xs y
  | .lidx a b, env => do let x ← evX .f a env; let y ← evX .f b env; lidxD x y
  | .callb g es, env => do let ds ← evb es env; let d ← (Φ g (fzs ds)).noX; gd (flatD d); .ok d
  | .listb a, env => do let x ← evX .b a env; gd (kidsF x); biD .list (m == .o) [x]
  | .isb neg a, env => do let x ← evX .b a env; .ok (.bl (if neg = true then !isNon x else isNon x))
  | .comp tg it hc cond e, env => do
    let xs ← evI it env
    let ds ← compL (fun x => R.noX (do
      let env1 ← bindT tg x (wipeE env (slotsT tg))
      let c ← (if hc = true then evT cond env1 else R.ok true)
      if c = true then do let d ← evX (em m) e env1; .ok (some d) else .ok none)) xs
    compR (m == .o) ds
def evT : CB → Env → R Bool
  | .val e, env => do let d ← evX .f e env; isBl d
  | .no t, env => do let b ← evT t env; .ok (!b)
  | .bo k ts, env => evTs k ts env
def evTs (k : Bool) : CBs → Env → R Bool
  | .nil, _ => .ok k
  | .cons t ts, env => do
    let b ← evT t env
    if b = k then evTs k ts env else .ok b
def evBV (k : Bool) : CEs → Env → R D
  | .nil, _ => .fail
  | .cons a es, env => do
    let x ← evX .f a env
    match es with
    | .nil => .ok x
    | es => do
      let b ← isBl x
      if b = k then evBV k es env else .ok (.bl b)
def evs : CEs → Env → R (List D)
  | .nil, _ => .ok []
  | .cons e es, env => do let d ← evX .f e env; let ds ← evs es env; .ok (d :: ds)
def evb : CEs → Env → R (List D)
  | .nil, _ => .ok []
  | .cons e es, env => do let d ← evX .b e env; let ds ← evb es env; .ok (d :: ds)
def evO : CO → Env → R (Option Int)
  | .none, _ => .ok none
  | .some e, env => do let x ← evX .f e env; let i ← isInt x; .ok (some i)
def evI : CI → Env → R (List D)
  | .ex e, env => do let d ← evX .f e env; itemsL d
  | .rng1 a, env => do
    let x ← evX .f a env
    let n ← isInt x
    gd (decide (n.natAbs < 2 ^ 62))
    .ok (rngD 0 n.toNat)
  | .rng2 a b, env => do
    let x ← evX .f a env
    let y ← evX .f b env
    let i ← isInt x
    let j ← isInt y
    gd (decide (i.natAbs < 2 ^ 62 ∧ j.natAbs < 2 ^ 62))
    .ok (rngD i (j - i).toNat)
  | .enum e, env => do let d ← evX .f e env; enumI d
  | .zip a b, env => do
    let x ← evX .f a env
    let y ← evX .f b env
    zipI x y
end
end
end TI
set_option Elab.async false
set_option linter.all false
set_option maxRecDepth 10000
/-! TI4: soundness of the code's expressions. -/
namespace TI
open PySem PySem.Spec PyProof.Rows L2

def Want {α : Type} (r : R α) (ok : α → Prop) (ex : Exn → Prop) : Prop := match r with
  | .ok a => ok a
  | .exc x => ex x
  | .fail => False
theorem Want.bind {α β : Type} {r : R α} {f : α → R β} {ok : β → Prop} {ex : Exn → Prop} (h : Want (r >>= f) ok ex) : Want r (fun a => Want (f a) ok ex) ex := by
  cases r <;> exact h
theorem Want.mono {α : Type} {r : R α} {ok ok' : α → Prop} {ex ex' : Exn → Prop} (h : Want r ok ex) (h1 : ∀ a, ok a → ok' a) (h2 : ∀ x, ex x → ex' x) : Want r ok' ex' := by
  cases r with
  | ok a => exact h1 a h
  | exc x => exact h2 x h
  | fail => exact h
theorem Want.bindM {α β : Type} {r : R α} {f : α → R β} {ok : β → Prop} {ex ex' : Exn → Prop} {ok' : α → Prop} (h : Want (r >>= f) ok ex) (h1 : ∀ a, Want (f a) ok ex → ok' a) (h2 : ∀ x, ex x → ex' x) : Want r ok' ex' :=
  h.bind.mono h1 h2
theorem Want.gd {β : Type} {c : Bool} {f : Unit → R β} {ok : β → Prop} {ex : Exn → Prop} (h : Want (gd c >>= f) ok ex) : c = true ∧ Want (f ()) ok ex := by
  cases c with
  | true => exact ⟨rfl, h⟩
  | false => exact h.elim
theorem Want.ofO {α β : Type} {o : Option α} {f : α → R β} {ok : β → Prop} {ex : Exn → Prop} (h : Want (ofO o >>= f) ok ex) : ∃ a, o = some a ∧ Want (f a) ok ex := by
  cases o with
  | some a => exact ⟨a, rfl, h⟩
  | none => exact h.elim
theorem Want.isBl {β : Type} {d : D} {f : Bool → R β} {ok : β → Prop} {ex : Exn → Prop} (h : Want (isBl d >>= f) ok ex) : ∃ a, d = .bl a ∧ Want (f a) ok ex := by
  cases d <;> first | exact ⟨_, rfl, h⟩ | exact h.elim
theorem Want.isInt {β : Type} {d : D} {f : Int → R β} {ok : β → Prop} {ex : Exn → Prop} (h : Want (isInt d >>= f) ok ex) : ∃ a, d = .int a ∧ Want (f a) ok ex := by
  cases d <;> first | exact ⟨_, rfl, h⟩ | exact h.elim

/-- where code stands: the program's facts, the names, the callees' functions -/
structure Info where
  P : Program
  w : World
  K : PySem.W.Frag
  mg : Str → Option Value
  base : Heap
  N : List Str
  sc : Scope
  loc : Str → Bool
  k : Nat
  CX : CXT
  E : XK
  XW : Exn → Hp → Hp → Prop
  cls : Str → Option Value
  Φ : Nat → List D → R D
  nm : Nat → Option (Str × Nat)
  cst : Str → Option D

/-- an exception as it is wanted -/
def ExcE (K : PySem.W.Frag) (cls : Str → Option Value) (x : Exn) (F H : Hp) (E : XK) : Prop :=
  match x.arg with
  | none => ∃ C, cls x.cls = some C ∧ E C none H
  | some d => ∃ C, cls x.cls = some C ∧ ∃ q f v, H q = some (.xd [(f, v)]) ∧ Rep K F d v ∧ E C (some q) H

/-- what a def promises, its function on data given -/
def spOf (K : PySem.W.Frag) (cls : Str → Option Value) (n : Nat) (f : List D → R D) : Sp := fun vs H Q E => vs.length = n ∧ ∃ F ds, Ex F H ∧ Reps K F ds vs ∧
  Want (f ds) (fun d => ∀ v F' ω' H', Sta K ⟨H, F, fun _ => False⟩ F' ω' H' [] [] [(v, d)] → Q v H') (fun x => ∀ F' ω' H', Sta K ⟨H, F, fun _ => False⟩ F' ω' H' [] [] [] → ExcE K cls x F' H' E)

structure IOk (I : Info) : Prop where
  nd : I.N.Nodup
  fns : ∀ g x n, I.nm g = some (x, n) → ∃ f fd ps, ps.length = n ∧ I.mg x = some (.ref f) ∧ PySem.W.keepIn I.K (.ref f) = true ∧ Binds I.K fd ps [] ∧ FnOk I.P I.w I.K I.mg I.base I.CX I.k f fd ps (spOf I.K I.cls ps.length (I.Φ g))
  blt : ∀ x : Str, x ∈ (["len", "abs", "max", "min", "int", "list", "tuple", "str", "range", "set", "isinstance", "bool", "enumerate", "zip"] : List Str) → I.mg x = none
  csts : ∀ x d, I.cst x = some d → ∃ v u, I.mg x = some u ∧ RelV v u ∧ ∀ F, Rep I.K F d v
  xw : ∀ x F H, I.XW x F H → ExcE I.K I.cls x F H I.E
  p0 : ∀ X : Cx, X.prog = I.P → X.w = I.w → Passes I.CX X E0

structure XOk (I : Info) (X : Cx) : Prop where
  prog : X.prog = I.P
  w : X.w = I.w
  K : X.K = I.K
  mg : X.mg = I.mg
  base : X.base = I.base
  N : X.N = I.N
  sc : X.env.scope = I.sc
  loc : ∀ x, I.loc x = true → Loc X.env.scope x ∧ (X.fn x = true ∨ X.env.scope.names.lookup x = some .local)
  calm : X.calm = true
  room : Room I.k X.A
  pass : Passes I.CX X I.E

/-- what an exception is to find -/
def EXW (I : Info) (B : Base) (σ : L2.St) (env : Env) (T : List (V × D)) (F : Hp) (ω : Om) (H : Hp) (x : Exn) : Prop :=
  ∀ F' ω' H', Sta I.K B F' ω' H' σ env T → Grow F ω H F' ω' H' → I.XW x F' H'
theorem EXW.grow {I : Info} {B : Base} {σ : L2.St} {env : Env} {T : List (V × D)} {F F' : Hp} {ω ω' : Om} {H H' : Hp} {x : Exn} (g : Grow F ω H F' ω' H') (h : EXW I B σ env T F ω H x) : EXW I B σ env T F' ω' H' x :=
  fun F2 ω2 H2 S g2 => h F2 ω2 H2 S (g.trans g2)

/-- an expression's result, by the mode -/
def Res (K : PySem.W.Frag) (m : M) (B : Base) (F : Hp) (ω : Om) (H : Hp) (σ : L2.St) (env : Env) (T : List (V × D)) (v : V) (d : D) : Prop := match m with
  | .f => Sta K B F ω H σ env T ∧ Rep K F d v
  | .o => Sta K B F ω H σ env (T ++ [(v, d)])
  | .b => Sta K B F ω H σ env T ∧ ∃ t path, Own K F H ω t d path v
theorem Res.of {K : PySem.W.Frag} {m : M} {B : Base} {F : Hp} {ω : Om} {H : Hp} {σ : L2.St} {env : Env} {T : List (V × D)} {v : V} {d : D} (S : Sta K B F ω H σ env T) (r : Rep K F d v) : Res K m B F ω H σ env T v d := by
  cases m with
  | f => exact ⟨S, r⟩
  | o => exact S.push r
  | b => exact ⟨S, (0, 0), [], r.own⟩

def isTest : Expr → Bool
  | .BoolOp .. => true
  | .UnaryOp .Not _ _ => true
  | .IfExp .. => true
  | _ => false

/-- an expression's code is sound -/
def EOk (I : Info) (m : M) (e : Expr) (ev : Env → R D) : Prop :=
  ∃ t : TE, (∀ X, XOk I X → PE X e t ∧ (isTest e = false → PT X e (tB t))) ∧
    ∀ B F ω H σ env T Q, Sta I.K B F ω H σ env T → Want (ev env) (fun d => ∀ v F' ω' H', Res I.K m B F' ω' H' σ env T v d → Grow F ω H F' ω' H' → Q v H') (EXW I B σ env T F ω H) → t σ H Q
def EsOk (I : Info) (es : List Expr) (ev : Env → R (List D)) : Prop :=
  ∃ t : TA, (∀ X, XOk I X → PA X es t) ∧
    (∀ B F ω H σ env T Q, Sta I.K B F ω H σ env T → Want (ev env) (fun ds => ∀ vs F' ω' H', Sta I.K B F' ω' H' σ env T → Reps I.K F' ds vs → Grow F ω H F' ω' H' → Q vs H') (EXW I B σ env T F ω H) → t σ H Q) ∧
    ∀ env ds, ev env = .ok ds → ds.length = es.length
def TOk (I : Info) (e : Expr) (ev : Env → R Bool) : Prop :=
  ∃ t : TT, (∀ X, XOk I X → PT X e t) ∧
    ∀ B F ω H σ env T Q, Sta I.K B F ω H σ env T → Want (ev env) (fun c => ∀ F' ω' H', Sta I.K B F' ω' H' σ env T → Grow F ω H F' ω' H' → Q c H') (EXW I B σ env T F ω H) → t σ H Q
def OOk (I : Info) (e : Option Expr) (ev : Env → R (Option Int)) : Prop :=
  ∃ t : TO, (∀ X, XOk I X → PO X e t) ∧
    ∀ B F ω H σ env T Q, Sta I.K B F ω H σ env T → Want (ev env) (fun c => ∀ F' ω' H', Sta I.K B F' ω' H' σ env T → Grow F ω H F' ω' H' → Q c H') (EXW I B σ env T F ω H) → t σ H Q

/-- an expression that is neither a test of its own nor starred, as a test -/
def plainT : Expr → Bool
  | .BoolOp .. => false
  | .UnaryOp .Not _ _ => false
  | .IfExp .. => false
  | .Compare .. => false
  | _ => true
theorem pt_plain {X : Cx} {e : Expr} {t : TE} (h : PE X e t) (hp : plainT e = true) : PT X e (tB t) := by
  refine pt_val h ?_
  intro whole
  cases e with
  | UnaryOp op a pos => cases op <;> first | rfl | (simp [plainT] at hp)
  | _ => first | rfl | (simp [plainT] at hp)
theorem EOk.of {I : Info} {m : M} {e : Expr} {ev : Env → R D} (t : TE) (h : ∀ X, XOk I X → PE X e t) (hp : plainT e = true)
    (hs : ∀ B F ω H σ env T Q, Sta I.K B F ω H σ env T → Want (ev env) (fun d => ∀ v F' ω' H', Res I.K m B F' ω' H' σ env T v d → Grow F ω H F' ω' H' → Q v H') (EXW I B σ env T F ω H) → t σ H Q) : EOk I m e ev :=
  ⟨t, fun X hX => ⟨h X hX, fun _ => pt_plain (h X hX) hp⟩, hs⟩

def notStar : Expr → Bool
  | .Starred .. => false
  | _ => true
theorem star_cons {e : Expr} (h : notStar e = true) {es : List Expr} {env : PySem.Env} : starEach (e :: es) env = (false, eval e env) :: starEach es env := by
  cases e <;> first | rfl | (simp [notStar] at h)
def visB (sc : Scope) (x : Str) : Bool := match sc.names.lookup x with
  | some .local => true
  | some .cell => true
  | some .free => true
  | _ => false
theorem visB_ok {sc : Scope} {x : Str} (h : visB sc x = true) : Vis sc x := by
  unfold visB at h
  split at h
  · exact .inl (by assumption)
  · exact .inr (.inl (by assumption))
  · exact .inr (.inr (by assumption))
  · cases h
def glB (sc : Scope) (x : Str) : Bool := match sc.names.lookup x with
  | some .globalImplicit => true
  | _ => false
theorem glB_ok {X : Cx} {sc : Scope} {x : Str} (hs : X.env.scope = sc) (h : glB sc x = true) : Gl X x := by
  unfold glB at h
  show X.env.scope.names.lookup x = _
  rw [hs]
  split at h
  · assumption
  · cases h
abbrev sDbg : Str := "__debug__"
abbrev sCd : Str := "__classdict__"
end TI
set_option Elab.async false
set_option linter.all false
set_option maxRecDepth 10000
/-! TI5: the constructs of expressions, one by one. -/
namespace TI
open PySem PySem.Spec PyProof.Rows L2

def SE (I : Info) (m : M) (t : TE) (ev : Env → R D) : Prop :=
  ∀ B F ω H σ env T Q, Sta I.K B F ω H σ env T → Want (ev env) (fun d => ∀ v F' ω' H', Res I.K m B F' ω' H' σ env T v d → Grow F ω H F' ω' H' → Q v H') (EXW I B σ env T F ω H) → t σ H Q

variable {K : PySem.W.Frag} {B : Base} {F F' H H' : Hp} {ω ω' : Om} {σ : L2.St} {env : Env} {T : List (V × D)} {d : D} {v : V} {I : Info} {m : M}

/-- a value at hand, frozen or borrowed -/
def Hold (K : PySem.W.Frag) (m : M) (F H : Hp) (ω : Om) (d : D) (v : V) : Prop := match m with
  | .f => Rep K F d v
  | _ => ∃ t path, Own K F H ω t d path v
theorem Hold.grow (g : Grow F ω H F' ω' H') (h : Hold K m F H ω d v) : Hold K m F' H' ω' d v := by
  cases m with
  | f => exact Rep.mono g.ex h
  | o => obtain ⟨t, p, h⟩ := h; exact ⟨t, p, h.grow g⟩
  | b => obtain ⟨t, p, h⟩ := h; exact ⟨t, p, h.grow g⟩
theorem Hold.own (h : Hold K m F H ω d v) : ∃ t path, Own K F H ω t d path v := by
  cases m with
  | f => exact ⟨(0, 0), [], Rep.own h⟩
  | o => exact h
  | b => exact h
theorem Res.hold (hm : m ≠ .o) (r : Res K m B F ω H σ env T v d) : Sta K B F ω H σ env T ∧ Hold K m F H ω d v := by
  cases m with
  | f => exact r
  | o => exact absurd rfl hm
  | b => exact r
theorem Res.ofHold (S : Sta K B F ω H σ env T) {t : Tag} {path : List Nat} (h : Own K F H ω t d path v) {ok : D → Prop} {ex : Exn → Prop} (W : Want (do gM m d; R.ok d) ok ex) :
    ok d ∧ Res K m B F ω H σ env T v d := by
  cases m with
  | b => exact ⟨W, S, t, path, h⟩
  | f =>
    obtain ⟨h1, h2⟩ := Want.gd W
    exact ⟨h2, S, h.rep h1⟩
  | o =>
    obtain ⟨h1, h2⟩ := Want.gd W
    exact ⟨h2, S.push (h.rep h1)⟩

/-! ### allocation -/
theorem Sta.allocL {Q : VK} {ds : List D} {vs : List V} (S : Sta K B F ω H σ env T) (hr : Reps K F ds vs)
    (k : ∀ v F' ω' H', Res K m B F' ω' H' σ env T v (.lst (m == .o) ds) → Grow F ω H F' ω' H' → Q v H') : ∀ p, H p = none → Q (.ref p) (upd H p (.lst vs)) := fun p hp => by
  have frz : Sta K B (upd F p (.lst vs)) ω (upd H p (.lst vs)) σ env T ∧ Grow F ω H (upd F p (.lst vs)) ω (upd H p (.lst vs)) ∧ Rep K (upd F p (.lst vs)) (.lst false ds) (.ref p) := by
    obtain ⟨S', g⟩ := S.newFrz (o := .lst vs) hp
    exact ⟨S', g, by rw [Rep]; exact ⟨rfl, p, vs, rfl, upd_same, hr.mono g.ex⟩⟩
  cases m with
  | f => obtain ⟨S', g, r⟩ := frz; exact k _ _ _ _ (Res.of S' r) g
  | b => obtain ⟨S', g, r⟩ := frz; exact k _ _ _ _ (Res.of S' r) g
  | o =>
    obtain ⟨S', g⟩ := S.newOwn (o := .lst vs) (d := .lst true ds) hp fun H' ω' h1 h2 => by
      rw [Own]; exact ⟨p, vs, rfl, h1, h2, hr.owns⟩
    exact k _ _ _ _ S' g
theorem Sta.allocT {Q : VK} {ds : List D} {vs : List V} (S : Sta K B F ω H σ env T) (hr : Reps K F ds vs)
    (k : ∀ v F' ω' H', Res K m B F' ω' H' σ env T v (.tup ds) → Grow F ω H F' ω' H' → Q v H') : FT H vs Q := fun p o hp ho => by
  obtain ⟨S', g⟩ := S.newFrz (o := .frz o (.tup vs)) hp
  refine k _ _ _ _ (Res.of S' ?_) g
  rw [Rep]
  exact ⟨p, vs, rfl, NT.of upd_same ho, hr.mono g.ex⟩
theorem lim_line {n : Nat} (h : n ≤ lim) : n ≤ sizeLine := Nat.le_trans h (by decide)

theorem getv_nx : ∀ {env : Env} {i : Nat} {x : Exn}, getv env i ≠ .exc x
  | some _ :: _, 0, _, h => by cases h
  | none :: _, 0, _, h => by cases h
  | some _ :: e, n + 1, _, h => getv_nx (env := e) (i := n) h
  | none :: e, n + 1, _, h => getv_nx (env := e) (i := n) h
  | [], 0, _, h => by cases h
  | [], n + 1, _, h => by cases h

/-! ### names, constants -/
theorem e_var {i : Nat} {x : Str} {pos : Pos} (hN : I.N[i]? = some x) (hv : visB I.sc x = true) (hd : (x == sDbg) = false) (hcd : (x == sCd) = false) :
    EOk I m (.Name x pos) (fun env => do let d ← getv env i; gM m d; .ok d) := by
  refine EOk.of (tVar i) (fun X hX => pe_var (by rw [hX.N]; exact hN) (by rw [hX.sc]; exact visB_ok hv) hd hcd) rfl fun B F ω H σ env T Q S W => ?_
  cases h : getv env i with
  | fail => rw [h] at W; exact W.elim
  | exc x => exact absurd h getv_nx
  | ok d =>
    rw [h] at W
    obtain ⟨v, h1, h2⟩ := S.slot i d (getv_ok h)
    obtain ⟨k, r⟩ := Res.ofHold S h2 W
    exact ⟨v, h1, k _ _ _ _ r Grow.refl⟩
theorem e_gc {x : Str} {pos : Pos} (hI : IOk I) (hg : glB I.sc x = true) (hd : (x == sDbg) = false) (hc : (I.cst x).isSome = true) : EOk I m (.Name x pos) (fun _ => ofO (I.cst x)) := by
  obtain ⟨d, hc⟩ := Option.isSome_iff_exists.mp hc
  obtain ⟨v, u, h1, h2, h3⟩ := hI.csts x d hc
  refine EOk.of (tC v) (fun X hX => pe_glob (glB_ok hX.sc hg) (by rw [hX.mg]; exact h1) h2 hd) rfl fun B F ω H σ env T Q S W => ?_
  rw [hc] at W
  exact W _ _ _ _ (Res.of S (h3 F)) Grow.refl
theorem e_int {n : Int} {j : Nat} {pos : Pos} : EOk I m (.Constant (.int n) j pos) (fun _ => .ok (.int n)) :=
  EOk.of (tC (.int n)) (fun X hX => pe_int) rfl fun B F ω H σ env T Q S W => W _ _ _ _ (Res.of S rfl) Grow.refl
theorem e_bl {n : Bool} {j : Nat} {pos : Pos} : EOk I m (.Constant (.bool n) j pos) (fun _ => .ok (.bl n)) :=
  EOk.of (tC (.bl n)) (fun X hX => pe_bl) rfl fun B F ω H σ env T Q S W => W _ _ _ _ (Res.of S rfl) Grow.refl
theorem e_non {j : Nat} {pos : Pos} : EOk I m (.Constant .none j pos) (fun _ => .ok .non) :=
  EOk.of (tC .non) (fun X hX => pe_non) rfl fun B F ω H σ env T Q S W => W _ _ _ _ (Res.of S rfl) Grow.refl
theorem e_str {n : Str} {j : Nat} {pos : Pos} : EOk I m (.Constant (.str n) j pos) (fun _ => .ok (.str n)) :=
  EOk.of (tC (.str n)) (fun X hX => pe_str) rfl fun B F ω H σ env T Q S W => W _ _ _ _ (Res.of S rfl) Grow.refl

/-! ### two operands -/
theorem SE.two {ma mb : M} (na : ma ≠ .o) (nb : mb ≠ .o) {ta tb : TE} {eva evb : Env → R D} {g : D → D → R D} {r : R2} (ha : SE I ma ta eva) (hb : SE I mb tb evb)
    (hr : ∀ B F ω H σ env T (Q : VK) x y vx vy, Sta I.K B F ω H σ env T → Hold I.K ma F H ω x vx → Hold I.K mb F H ω y vy →
      Want (g x y) (fun d => ∀ v F' ω' H', Res I.K m B F' ω' H' σ env T v d → Grow F ω H F' ω' H' → Q v H') (EXW I B σ env T F ω H) → r vx vy H Q) :
    SE I m (tOp r ta tb) (fun env => do let x ← eva env; let y ← evb env; g x y) := fun B F ω H σ env T Q S W => by
  refine ha B F ω H σ env T _ S (W.bindM (fun x W1 vx F1 ω1 H1 R1 g1 => ?_) fun x h => h)
  obtain ⟨S1, h1⟩ := R1.hold na
  refine hb B F1 ω1 H1 σ env T _ S1 (W1.bindM (fun y W2 vy F2 ω2 H2 R2 g2 => ?_) fun x h => h.grow g1)
  obtain ⟨S2, h2⟩ := R2.hold nb
  exact hr B F2 ω2 H2 σ env T Q x y vx vy S2 (h1.grow g2) h2 (W2.mono (fun d k v F' ω' H' R g => k v F' ω' H' R ((g1.trans g2).trans g)) fun x h => h.grow (g1.trans g2))
theorem SE.one {ma : M} (na : ma ≠ .o) {ta : TE} {eva : Env → R D} {g : D → R D} {r : V → Hp → VK → Prop} (ha : SE I ma ta eva)
    (hr : ∀ B F ω H σ env T (Q : VK) x vx, Sta I.K B F ω H σ env T → Hold I.K ma F H ω x vx →
      Want (g x) (fun d => ∀ v F' ω' H', Res I.K m B F' ω' H' σ env T v d → Grow F ω H F' ω' H' → Q v H') (EXW I B σ env T F ω H) → r vx H Q) :
    SE I m (tUn r ta) (fun env => do let x ← eva env; g x) := fun B F ω H σ env T Q S W => by
  refine ha B F ω H σ env T _ S (W.bindM (fun x W1 vx F1 ω1 H1 R1 g1 => ?_) fun x h => h)
  obtain ⟨S1, h1⟩ := R1.hold na
  exact hr B F1 ω1 H1 σ env T Q x vx S1 h1 (W1.mono (fun d k v F' ω' H' R g => k v F' ω' H' R (g1.trans g)) fun x h => h.grow g1)

theorem rep_int {i : Int} : Rep K F (.int i) v ↔ v = .int i := Iff.rfl
theorem hold_lst {o : Bool} {xs : List D} (S : Sta K B F ω H σ env T) (h : Hold K m F H ω (.lst o xs) v) (hk : isFs xs = true) : ∃ p vs, v = .ref p ∧ H p = some (.lst vs) ∧ Reps K F xs vs := by
  obtain ⟨t, path, h⟩ := h.own
  cases o with
  | true =>
    rw [Own] at h
    obtain ⟨p, vs, rfl, h1, _, h2⟩ := h
    exact ⟨p, vs, rfl, h1, h2.reps hk⟩
  | false =>
    rw [Own, Rep] at h
    obtain ⟨_, p, vs, rfl, h1, h2⟩ := h
    exact ⟨p, vs, rfl, S.ex _ _ h1, h2⟩
theorem rep_lst {o : Bool} {xs : List D} (S : Sta K B F ω H σ env T) (h : Rep K F (.lst o xs) v) : ∃ p vs, v = .ref p ∧ H p = some (.lst vs) ∧ Reps K F xs vs := by
  rw [Rep] at h
  obtain ⟨_, p, vs, rfl, h1, h2⟩ := h
  exact ⟨p, vs, rfl, S.ex _ _ h1, h2⟩
theorem rep_tupN {xs : List D} (S : Sta K B F ω H σ env T) (h : Rep K F (.tup xs) v) : ∃ p vs, v = .ref p ∧ NT K H p vs ∧ Reps K F xs vs := by
  rw [Rep] at h
  obtain ⟨p, vs, rfl, h1, h2⟩ := h
  exact ⟨p, vs, rfl, h1.mono S.ex, h2⟩
theorem rep_tup {xs : List D} (S : Sta K B F ω H σ env T) (h : Rep K F (.tup xs) v) : ∃ p vs, v = .ref p ∧ SqT K H p vs ∧ Reps K F xs vs := by
  obtain ⟨p, vs, e, h1, h2⟩ := rep_tupN S h
  exact ⟨p, vs, e, h1.sq, h2⟩
theorem rep_pr {xs : List D} (S : Sta K B F ω H σ env T) (h : Rep K F (.pr xs) v) : ∃ p vs, v = .ref p ∧ SqT K H p vs ∧ Reps K F xs vs := by
  rw [Rep] at h
  obtain ⟨p, vs, rfl, h1, h2⟩ := h
  exact ⟨p, vs, rfl, Evl.ex_t S.ex h1, h2⟩
theorem rep_scr {xs : List Int} (S : Sta K B F ω H σ env T) (h : Rep K F (.scr xs) v) : ∃ p, v = .ref p ∧ SqL K H p (xs.map V.int) := by
  rw [Rep] at h
  obtain ⟨p, rfl, h1⟩ := h
  exact ⟨p, rfl, Evl.ex_l S.ex h1⟩
theorem reps_ints : ∀ {ns : List Int}, Reps K F (ns.map D.int) (ns.map V.int)
  | [] => reps_nil
  | n :: ns => reps_cons rfl reps_ints
theorem reps_len_eq {xs : List D} {vs : List V} (h : Reps K F xs vs) : vs.length = xs.length := reps_len h

/-! ### operators -/
def rBin (K : PySem.W.Frag) : Operator → R2
  | .Add => fun x y H Q => (rI0 fun i j => .int (i + j)) x y H Q ∨ (fun x y H Q => ∃ i j, x = .str i ∧ y = .str j ∧ i.length + j.length ≤ sizeLine ∧ Q (.str (i ++ j)) H) x y H Q ∨ rCat x y H Q ∨ rCatF K x y H Q
  | .Sub => rI0 fun i j => .int (i - j)
  | .Mult => fun x y H Q => (rI CMul fun i j => .int (i * j)) x y H Q ∨ rRep x y H Q
  | .FloorDiv => rI CDivN fun i j => .int (i.fdiv j)
  | .Mod => rI (fun _ j => j ≠ 0) fun i j => .int (i.fmod j)
  | .Pow => rI CPow fun i j => .int (i ^ j.toNat)
  | _ => fun _ _ _ _ => False
theorem op_bin {X : Cx} {op : Operator} : OpR X (binaryOp op) (rBin X.K op) := by
  cases op <;> first
    | exact op_add.or (op_add_str.or (op_cat.or op_catF))
    | exact op_sub
    | exact op_mul.or op_rep
    | exact op_fdivN
    | exact op_modN
    | exact op_pow
    | (intro pins s σ H x y v u Q I rx ry h; exact False.elim h)
theorem reps_rep {xs : List D} {vs : List V} (h : Reps K F xs vs) : ∀ k, Reps K F (rep k xs) (List.replicate k vs).flatten
  | 0 => reps_nil
  | k + 1 => by
    show Reps K F (List.replicate (k + 1) xs).flatten _
    rw [List.replicate_succ, List.replicate_succ, List.flatten_cons, List.flatten_cons]
    exact reps_append h (reps_rep h k)
theorem bin_ok {op : Operator} {x y : D} {vx vy : V} {Q : VK} {ex : Exn → Prop} (S : Sta K B F ω H σ env T) (hx : Rep K F x vx) (hy : Rep K F y vy)
    (W : Want (binD op (m == .o) x y) (fun d => ∀ v F' ω' H', Res K m B F' ω' H' σ env T v d → Grow F ω H F' ω' H' → Q v H') ex) : rBin K op vx vy H Q := by
  unfold binD at W
  split at W
  · cases hx; cases hy
    exact .inl ⟨_, _, rfl, rfl, W _ _ _ _ (Res.of S rfl) Grow.refl⟩
  · cases hx; cases hy
    obtain ⟨h1, W⟩ := W.gd
    exact .inr (.inl ⟨_, _, rfl, rfl, lim_line (of_decide_eq_true h1), W _ _ _ _ (Res.of S rfl) Grow.refl⟩)
  · obtain ⟨h1, W⟩ := W.gd
    have h1 := of_decide_eq_true h1
    obtain ⟨p, vs, rfl, e1, r1⟩ := rep_lst S hx
    obtain ⟨q, us, rfl, e2, r2⟩ := rep_lst S hy
    refine .inr (.inr (.inl ⟨p, q, vs, us, rfl, rfl, e1, e2, ?_, S.allocL (reps_append r1 r2) W⟩))
    rw [reps_len r1, reps_len r2]; exact lim_line h1
  · rename_i xs ys
    obtain ⟨h1, W⟩ := W.gd
    have h1 := of_decide_eq_true h1
    obtain ⟨p, vs, rfl, e1, r1⟩ := rep_tup S hx
    obtain ⟨q, us, rfl, e2, r2⟩ := rep_tup S hy
    refine .inr (.inr (.inr ⟨p, q, vs, us, rfl, rfl, e1, e2, ?_, ?_⟩))
    · rw [reps_len r1, reps_len r2]; exact lim_line h1
    · refine ⟨fun e => ?_, fun _ e => ?_, fun _ _ => S.allocT (reps_append r1 r2) W⟩
      · subst e
        have e2 : xs = [] := by
          have := reps_len r1
          simpa using this.symm
        subst e2
        exact W _ _ _ _ (Res.of S hy) Grow.refl
      · subst e
        have e2 : ys = [] := by
          have := reps_len r2
          simpa using this.symm
        subst e2
        exact W _ _ _ _ (Res.of S (by rw [List.append_nil]; exact hx)) Grow.refl
  · cases hx; cases hy
    exact ⟨_, _, rfl, rfl, W _ _ _ _ (Res.of S rfl) Grow.refl⟩
  · cases hx; cases hy
    obtain ⟨h1, W⟩ := W.gd
    have h1 := of_decide_eq_true h1
    refine .inl ⟨_, _, rfl, rfl, ?_, W _ _ _ _ (Res.of S rfl) Grow.refl⟩
    rcases h1 with h | h
    · exact .inl (by omega)
    · exact .inr (by omega)
  · cases hy
    obtain ⟨h1, W⟩ := W.gd
    have h1 := of_decide_eq_true h1
    obtain ⟨p, vs, rfl, e1, r1⟩ := rep_lst S hx
    refine .inr ⟨p, _, vs, rfl, rfl, e1, by omega, by omega, ?_, S.allocL (reps_rep r1 _) W⟩
    rw [reps_len r1]; exact lim_line h1.2
  · cases hx; cases hy
    obtain ⟨h1, W⟩ := W.gd
    have h1 := of_decide_eq_true h1
    exact ⟨_, _, rfl, rfl, h1, W _ _ _ _ (Res.of S rfl) Grow.refl⟩
  · cases hx; cases hy
    obtain ⟨h1, W⟩ := W.gd
    have h1 := of_decide_eq_true h1
    exact ⟨_, _, rfl, rfl, h1, W _ _ _ _ (Res.of S rfl) Grow.refl⟩
  · cases hx; cases hy
    obtain ⟨h1, W⟩ := W.gd
    have h1 := of_decide_eq_true h1
    exact ⟨_, _, rfl, rfl, h1, W _ _ _ _ (Res.of S rfl) Grow.refl⟩
  · exact W.elim
theorem EOk.se {e : Expr} {ev : Env → R D} (h : EOk I m e ev) : ∃ t : TE, (∀ X, XOk I X → PE X e t) ∧ SE I m t ev := by
  obtain ⟨t, h1, h2⟩ := h
  exact ⟨t, fun X hX => (h1 X hX).1, h2⟩
theorem e_bin {op : Operator} {a b : Expr} {pos : Pos} {eva evb : Env → R D} (ha : EOk I .f a eva) (hb : EOk I .f b evb) :
    EOk I m (.BinOp a op b pos) (fun env => do let x ← eva env; let y ← evb env; binD op (m == .o) x y) := by
  obtain ⟨ta, pa, sa⟩ := ha.se
  obtain ⟨tb, pb, sb⟩ := hb.se
  refine EOk.of (tOp (rBin I.K op) ta tb) (fun X hX => by rw [← hX.K]; exact pe_op op_bin (pa X hX) (pb X hX)) rfl ?_
  exact SE.two (by decide) (by decide) sa sb fun B F ω H σ env T Q x y vx vy S hx hy W => bin_ok S hx hy W
theorem e_neg {a : Expr} {pos : Pos} {eva : Env → R D} (ha : EOk I .f a eva) :
    EOk I m (.UnaryOp .USub a pos) (fun env => do let x ← eva env; let i ← isInt x; .ok (.int (-i))) := by
  obtain ⟨ta, pa, sa⟩ := ha.se
  refine EOk.of (tUn (rU fun i => .int (-i)) ta) (fun X hX => pe_un un_neg (pa X hX)) rfl ?_
  refine SE.one (by decide) sa fun B F ω H σ env T Q x vx S hx W => ?_
  obtain ⟨i, rfl, W⟩ := W.isInt
  cases hx
  exact ⟨i, rfl, W _ _ _ _ (Res.of S rfl) Grow.refl⟩
end TI
set_option Elab.async false
set_option linter.all false
set_option maxRecDepth 10000
/-! TI6: comparisons, tests, and the sequences' constructs. -/
namespace TI
open PySem PySem.Spec PyProof.Rows L2
variable {K : PySem.W.Frag} {B : Base} {F F' H H' : Hp} {ω ω' : Om} {σ : L2.St} {env : Env} {T : List (V × D)} {d : D} {v : V} {I : Info} {m : M}

theorem dp_ints : ∀ (ns : List Int), DpAll K H (ns.map V.int) (ns.map PyData.int)
  | [] => .nil
  | n :: ns => .cons (.int n) (dp_ints ns)
mutual
theorem dp_of (S : Sta K B F ω H σ env T) : ∀ {d : D} {v : V}, PyData.canLay0 (toPy d) = true → Rep K F d v → Dp K H v (toPy d)
  | .non, _, _, h => by cases h; exact .non
  | .bl b, _, _, h => by cases h; exact .bl b
  | .int b, _, _, h => by cases h; exact .int b
  | .str b, _, _, h => by cases h; exact .str b
  | .scr ns, _, _, h => by
    obtain ⟨p, rfl, h1⟩ := rep_scr S h
    exact .lst h1 (dp_ints ns)
  | .lst o xs, _, c, h => by
    obtain ⟨p, vs, rfl, h1, h2⟩ := rep_lst S h
    exact .lst (SqL.of h1) (dps_of S (by simpa [toPy, PyData.canLay0] using c) h2)
  | .tup xs, _, c, h => by
    obtain ⟨p, vs, rfl, h1, h2⟩ := rep_tup S h
    exact .tup h1 (dps_of S (by simpa [toPy, PyData.canLay0] using c) h2)
  | .dK _ _ _, _, c, _ => by simp [toPy, PyData.canLay0] at c
  | .dT _ _, _, c, _ => by simp [toPy, PyData.canLay0] at c
  | .pr _, _, c, _ => by simp [toPy, PyData.canLay0] at c
theorem dps_of (S : Sta K B F ω H σ env T) : ∀ {xs : List D} {vs : List V}, PyData.canLayAll0 (toPys xs) = true → Reps K F xs vs → DpAll K H vs (toPys xs)
  | [], _, _, h => by rw [Reps] at h; subst h; exact .nil
  | x :: xs, _, c, h => by
    rw [Reps] at h
    obtain ⟨v, vr, rfl, h1, h2⟩ := h
    simp only [toPys, PyData.canLayAll0, Bool.and_eq_true] at c
    exact .cons (dp_of S c.1 h1) (dps_of S c.2 h2)
end

theorem eq_ok {x y : D} {vx vy : V} {ok : Bool → Prop} {ex : Exn → Prop} (S : Sta K B F ω H σ env T) {mb : M} (hx : Rep K F x vx) (hy : Hold K mb F H ω y vy) (W : Want (eqD x y) ok ex) :
    (scal vx vy = true ∧ ok (decide (vx = vy))) ∨ ∃ d e, Dp K H vx d ∧ Dp K H vy e ∧ SeqAt.shaped d = true ∧ SeqAt.shaped e = true ∧ ok (PyData.eqv d e) := by
  obtain ⟨t, path, hy⟩ := hy.own
  unfold eqD at W
  split at W
  · cases hx; cases hy
    refine .inl ⟨rfl, ?_⟩
    rw [dec_int]
    have W : ok _ := W
    rw [← Bool.beq_eq_decide_eq] at W
    exact W
  · cases hx; cases hy
    refine .inl ⟨rfl, ?_⟩
    rw [dec_str]
    have W : ok _ := W
    rw [← Bool.beq_eq_decide_eq] at W
    exact W
  · cases hx; cases hy
    refine .inl ⟨rfl, ?_⟩
    rw [dec_bl]
    have W : ok _ := W
    rw [← Bool.beq_eq_decide_eq] at W
    exact W
  · obtain ⟨h1, W⟩ := W.gd
    simp only [Bool.and_eq_true] at h1
    obtain ⟨⟨⟨f1, f2⟩, s1⟩, s2⟩ := h1
    exact .inr ⟨_, _, dp_of S (SeqAt.canLay_of_shaped s1) hx, dp_of S (SeqAt.canLay_of_shaped s2) (hy.rep f2), s1, s2, W⟩

theorem flat_v {t : Tag} {path : List Nat} (h : Own K F H ω t d path v) (f : flatD d = true) : v = toV d ∧ flatV v = true := by
  cases d <;> first | (cases h; exact ⟨rfl, rfl⟩) | (simp [flatD] at f)
theorem flat_vs {t : Tag} : ∀ {xs : List D} {vs : List V} {path : List Nat} {j : Nat}, Owns K F H ω t xs path j vs → xs.all flatD = true → vs = xs.map toV ∧ vs.all flatV = true
  | [], _, _, _, h, _ => by rw [Owns] at h; subst h; exact ⟨rfl, rfl⟩
  | x :: xs, _, _, _, h, f => by
    rw [Owns] at h
    obtain ⟨v, vr, rfl, h1, h2⟩ := h
    rw [List.all_cons, Bool.and_eq_true] at f
    obtain ⟨e1, e2⟩ := flat_v h1 f.1
    obtain ⟨e3, e4⟩ := flat_vs h2 f.2
    refine ⟨by rw [e1, e3]; rfl, by rw [List.all_cons, e2, e4]; rfl⟩
theorem in_eq (x : D) (xs : List D) : inV (toV x) (xs.map toV) = inD x xs := by
  unfold inV inD
  rw [List.any_map]; rfl
theorem in_ok {x y : D} {ys : List D} {vx vy : V} {mb : M} (S : Sta K B F ω H σ env T) (hx : Rep K F x vx) (hy : Hold K mb F H ω y vy) (hi : itemsD y = .ok ys) (fx : flatD x = true) (fy : ys.all flatD = true) :
    ∃ p xs, vy = .ref p ∧ (SqL K H p xs ∨ SqT K H p xs) ∧ flatV vx = true ∧ xs.all flatV = true ∧ inV vx xs = inD x ys := by
  obtain ⟨e1, e2⟩ := flat_v (Rep.own (H := H) (ω := ω) (t := (0, 0)) (path := []) hx) fx
  obtain ⟨t, path, hz⟩ := hy.own
  clear hy
  cases y with
  | scr ns =>
    rw [Own] at hz
    obtain ⟨p, rfl, h1⟩ := rep_scr S hz
    cases hi
    obtain ⟨e3, e4⟩ := flat_vs (Reps.owns (K := K) (F := F) (H := H) (ω := ω) (t := (0, 0)) (path := []) (j := 0) (reps_ints (ns := ns))) fy
    exact ⟨p, _, rfl, .inl h1, e2, e4, by rw [e1, e3]; exact in_eq _ _⟩
  | lst o xs =>
    cases hi
    cases o with
    | true =>
      rw [Own] at hz
      obtain ⟨p, vs, rfl, h1, _, h2⟩ := hz
      obtain ⟨e3, e4⟩ := flat_vs h2 fy
      exact ⟨p, vs, rfl, .inl (SqL.of h1), e2, e4, by rw [e1, e3]; exact in_eq _ _⟩
    | false =>
      rw [Own] at hz
      obtain ⟨p, vs, rfl, h1, h2⟩ := rep_lst S hz
      obtain ⟨e3, e4⟩ := flat_vs (Reps.owns (H := H) (ω := ω) (t := (0, 0)) (path := []) (j := 0) h2) fy
      exact ⟨p, vs, rfl, .inl (SqL.of h1), e2, e4, by rw [e1, e3]; exact in_eq _ _⟩
  | tup xs =>
    cases hi
    rw [Own] at hz
    obtain ⟨p, vs, rfl, h1, h2⟩ := rep_tup S hz
    obtain ⟨e3, e4⟩ := flat_vs (Reps.owns (H := H) (ω := ω) (t := (0, 0)) (path := []) (j := 0) h2) fy
    exact ⟨p, vs, rfl, .inr h1, e2, e4, by rw [e1, e3]; exact in_eq _ _⟩
  | _ => cases hi
theorem itemsW {β : Type} {y : D} {f : List D → R β} {ok : β → Prop} {ex : Exn → Prop} (W : Want (itemsD y >>= f) ok ex) : ∃ ys, itemsD y = .ok ys ∧ Want (f ys) ok ex := by
  cases y <;> first | exact ⟨_, rfl, W⟩ | exact W.elim

def rCmp (K : PySem.W.Frag) : CmpOp → R2
  | .Lt => rI0 fun i j => .bl (decide (i < j))
  | .LtE => rI0 fun i j => .bl (decide (i ≤ j))
  | .Gt => rI0 fun i j => .bl (decide (j < i))
  | .GtE => rI0 fun i j => .bl (decide (j ≤ i))
  | .Eq => fun x y H Q => rEq x y H Q ∨ rEqD K x y H Q
  | .NotEq => fun x y H Q => rNe x y H Q ∨ rNeD K x y H Q
  | .Is => fun x y H Q => (fun x y H Q => y = .non ∧ Q (.bl (decide (x = .non))) H) x y H Q ∨ rIsB x y H Q
  | .IsNot => fun x y H Q => (fun x y H Q => y = .non ∧ Q (.bl (!decide (x = .non))) H) x y H Q ∨ rNotB x y H Q
  | .In => rIn K false
  | .NotIn => rIn K true
theorem op_cmp {X : Cx} {op : CmpOp} (hu : X.A.units + 64 < cLine) : OpR X (compareOp op) (rCmp X.K op) := by
  cases op
  · exact op_eq.or (op_eqD hu)
  · exact op_ne.or (op_neD hu)
  · exact op_lt
  · exact op_le
  · exact op_gt
  · exact op_ge
  · exact op_isN.or op_isBl
  · exact op_notN.or op_notBl
  · exact op_in_seq
  · exact op_notIn_seq
theorem non_iff {t : Tag} {path : List Nat} (h : Own K F H ω t d path v) : decide (v = V.non) = isNon d := by
  cases d with
  | non => cases h; rfl
  | bl b => cases h; rfl
  | int b => cases h; rfl
  | str b => cases h; rfl
  | scr ns => rw [Own, Rep] at h; obtain ⟨p, rfl, _⟩ := h; rfl
  | lst o xs => cases o <;> rw [Own] at h <;> first | (obtain ⟨p, vs, rfl, _⟩ := h; rfl) | (rw [Rep] at h; obtain ⟨_, p, vs, rfl, _⟩ := h; rfl)
  | tup xs => rw [Own, Rep] at h; obtain ⟨p, vs, rfl, _⟩ := h; rfl
  | dK o ks xs => cases o <;> rw [Own] at h <;> first | (obtain ⟨p, vs, rfl, _⟩ := h; rfl) | (rw [Rep] at h; obtain ⟨_, p, vs, rfl, _⟩ := h; rfl)
  | dT o ks => cases o <;> rw [Own] at h <;> first | (obtain ⟨p, vs, rfl, _⟩ := h; rfl) | (rw [Rep] at h; obtain ⟨_, p, vs, rfl, _⟩ := h; rfl)
  | pr xs => rw [Own] at h; obtain ⟨p, vs, rfl, _⟩ := h; rfl
theorem cmp_ok {op : CmpOp} {x y : D} {vx vy : V} {mb : M} {Q : VK} {ex : Exn → Prop} (S : Sta K B F ω H σ env T) (hx : Rep K F x vx) (hy : Hold K mb F H ω y vy)
    (W : Want (cmpD op x y) (fun d => ∀ v, Rep K F d v → Q v H) ex) : rCmp K op vx vy H Q := by
  unfold cmpD at W
  split at W
  · obtain ⟨t, path, hy⟩ := hy.own
    cases hx; cases hy; exact ⟨_, _, rfl, rfl, W _ rfl⟩
  · obtain ⟨t, path, hy⟩ := hy.own
    cases hx; cases hy; exact ⟨_, _, rfl, rfl, W _ rfl⟩
  · obtain ⟨t, path, hy⟩ := hy.own
    cases hx; cases hy; exact ⟨_, _, rfl, rfl, W _ rfl⟩
  · obtain ⟨t, path, hy⟩ := hy.own
    cases hx; cases hy; exact ⟨_, _, rfl, rfl, W _ rfl⟩
  · rcases eq_ok S hx hy W.bind with ⟨h1, h2⟩ | ⟨d, e, h1, h2, h3, h4, h5⟩
    · exact .inl ⟨h1, h2 _ rfl⟩
    · exact .inr ⟨d, e, h1, h2, h3, h4, h5 _ rfl⟩
  · rcases eq_ok S hx hy W.bind with ⟨h1, h2⟩ | ⟨d, e, h1, h2, h3, h4, h5⟩
    · exact .inl ⟨h1, h2 _ rfl⟩
    · exact .inr ⟨d, e, h1, h2, h3, h4, h5 _ rfl⟩
  · obtain ⟨t, path, hy⟩ := hy.own
    cases hx; cases hy; exact .inr ⟨_, _, rfl, rfl, W _ rfl⟩
  · obtain ⟨t, path, hy⟩ := hy.own
    cases hx; cases hy; exact .inr ⟨_, _, rfl, rfl, W _ rfl⟩
  · obtain ⟨t, path, hy⟩ := hy.own
    cases hy
    refine .inl ⟨rfl, ?_⟩
    rw [non_iff (Rep.own (H := H) (ω := ω) (t := (0, 0)) (path := []) hx)]
    exact W _ rfl
  · obtain ⟨t, path, hy⟩ := hy.own
    cases hy
    refine .inl ⟨rfl, ?_⟩
    rw [non_iff (Rep.own (H := H) (ω := ω) (t := (0, 0)) (path := []) hx)]
    exact W _ rfl
  · obtain ⟨ys, e, W⟩ := itemsW W
    obtain ⟨h1, W⟩ := Want.gd W
    rw [Bool.and_eq_true] at h1
    obtain ⟨p, xs, rfl, a1, a2, a3, a4⟩ := in_ok S hx hy e h1.1 h1.2
    refine ⟨p, xs, rfl, a1, a2, a3, ?_⟩
    show Q (.bl (inV _ _)) H
    rw [a4]; exact W _ rfl
  · obtain ⟨ys, e, W⟩ := itemsW W
    obtain ⟨h1, W⟩ := Want.gd W
    rw [Bool.and_eq_true] at h1
    obtain ⟨p, xs, rfl, a1, a2, a3, a4⟩ := in_ok S hx hy e h1.1 h1.2
    refine ⟨p, xs, rfl, a1, a2, a3, ?_⟩
    show Q (.bl (!inV _ _)) H
    rw [a4]; exact W _ rfl
  · exact W.elim
def notSet : Expr → Bool
  | .Set .. => false
  | _ => true
theorem noMarks {b : Expr} (h : notSet b = true) {op : CmpOp} : behindInMarks op b = false := by
  cases b <;> first | rfl | (simp [notSet] at h)
/-- what a comparison wants, told by any state -/
theorem cmp_okS {op : CmpOp} {x y : D} {vx vy : V} {mb : M} {Q : VK} {ex : Exn → Prop} (S : Sta K B F ω H σ env T) (hx : Rep K F x vx) (hy : Hold K mb F H ω y vy)
    (W : Want (cmpD op x y) (fun d => ∀ v F' ω' H', Res K m B F' ω' H' σ env T v d → Grow F ω H F' ω' H' → Q v H') ex) : rCmp K op vx vy H Q :=
  cmp_ok S hx hy (W.mono (fun d k v r => k v _ _ _ (Res.of S r) Grow.refl) fun _ h => h)
theorem e_cmp {op : CmpOp} {a b : Expr} {pos : Pos} {eva evb : Env → R D} (ha : EOk I .f a eva) (hb : EOk I .b b evb) (hn : notSet b = true) :
    EOk I m (.Compare a [op] [b] pos) (fun env => do let x ← eva env; let y ← evb env; cmpD op x y) := by
  obtain ⟨ta, pa, sa⟩ := ha.se
  obtain ⟨tb, pb, sb⟩ := hb.se
  refine ⟨tOp (rCmp I.K op) ta tb, fun X hX => ⟨?_, fun _ => ?_⟩, ?_⟩
  · rw [← hX.K]; exact pe_cmpR (op_cmp (by have := hX.room.un; omega)) (pa X hX) (pb X hX) (noMarks hn)
  · rw [← hX.K]; exact pt_cmpR (op_cmp (by have := hX.room.un; omega)) (pa X hX) (pb X hX) (noMarks hn)
  · exact SE.two (by decide) (by decide) sa sb fun B F ω H σ env T Q x y vx vy S hx hy W => cmp_okS S hx hy W
theorem e_chn {op op' : CmpOp} {a b c : Expr} {pos : Pos} {eva evb evc : Env → R D} (ha : EOk I .f a eva) (hb : EOk I .f b evb) (hc : EOk I .f c evc) (hn : notSet b = true) (hn' : notSet c = true) :
    EOk I m (.Compare a [op, op'] [b, c] pos) (fun env => do
      let x ← eva env
      let y ← evb env
      let d ← cmpD op x y
      let t ← isBl d
      if t = true then do let z ← evc env; cmpD op' y z else .ok (.bl false)) := by
  obtain ⟨ta, pa, sa⟩ := ha.se
  obtain ⟨tb, pb, sb⟩ := hb.se
  obtain ⟨tc, pc, sc⟩ := hc.se
  refine ⟨tChain (rCmp I.K op) (rCmp I.K op') ta tb tc, fun X hX => ⟨?_, fun _ => ?_⟩, ?_⟩
  · rw [← hX.K]; exact pe_chain (op_cmp (by have := hX.room.un; omega)) (op_cmp (by have := hX.room.un; omega)) (pa X hX) (pb X hX) (pc X hX) (show lastMarks [op, op'] [b, c] = false from noMarks hn')
  · rw [← hX.K]; exact pt_chain (op_cmp (by have := hX.room.un; omega)) (op_cmp (by have := hX.room.un; omega)) (pa X hX) (pb X hX) (pc X hX) (show lastMarks [op, op'] [b, c] = false from noMarks hn')
  · intro B F ω H σ env T Q S W
    refine sa B F ω H σ env T _ S (W.bindM (fun x W1 vx F1 ω1 H1 R1 g1 => ?_) fun x h => h)
    obtain ⟨S1, h1⟩ := R1
    refine sb B F1 ω1 H1 σ env T _ S1 (W1.bindM (fun y W2 vy F2 ω2 H2 R2 g2 => ?_) fun x h => h.grow g1)
    obtain ⟨S2, h2⟩ := R2
    refine cmp_ok (mb := .f) S2 (h1.mono g2.ex) h2 (W2.bindM (fun d W3 v r => ?_) fun x h => h)
    obtain ⟨t, rfl, W3⟩ := W3.isBl
    cases r
    refine ⟨t, rfl, ?_⟩
    cases t with
    | false =>
      show Q (.bl false) H2
      exact W3 _ _ _ _ (Res.of S2 rfl) (g1.trans g2)
    | true =>
      show tc σ H2 _
      have W3 : Want (evc env >>= fun z => cmpD op' y z) _ _ := W3
      refine sc B F2 ω2 H2 σ env T _ S2 (W3.bindM (fun z W4 vz F3 ω3 H3 R3 g3 => ?_) fun x h => h.grow (g1.trans g2))
      obtain ⟨S3, h3⟩ := R3
      exact cmp_okS (mb := .f) S3 (h2.mono g3.ex) h3 (W4.mono (fun d k v F' ω' H' R g => k v F' ω' H' R (((g1.trans g2).trans g3).trans g)) fun x h => h)
/-! ### tests -/
theorem t_val {e : Expr} {ev : Env → R D} (h : EOk I .f e ev) (ht : isTest e = false) : TOk I e (fun env => do let d ← ev env; isBl d) := by
  obtain ⟨t, h1, h2⟩ := h
  refine ⟨tB t, fun X hX => (h1 X hX).2 ht, fun B F ω H σ env T Q S W => ?_⟩
  refine h2 B F ω H σ env T _ S (W.bindM (fun x W1 vx F1 ω1 H1 R1 g1 => ?_) fun x h => h)
  cases x <;> first | exact W1.elim | skip
  obtain ⟨S1, r1⟩ := R1
  cases r1
  exact ⟨_, rfl, W1 _ _ _ S1 g1⟩
theorem t_no {e : Expr} {pos : Pos} {ev : Env → R Bool} (h : TOk I e ev) : TOk I (.UnaryOp .Not e pos) (fun env => do let b ← ev env; .ok (!b)) := by
  obtain ⟨t, h1, h2⟩ := h
  refine ⟨tNot t, fun X hX => pt_not (h1 X hX), fun B F ω H σ env T Q S W => ?_⟩
  exact h2 B F ω H σ env T _ S (W.bindM (fun x W1 F1 ω1 H1 S1 g1 => W1 _ _ _ S1 g1) fun x h => h)
/-- the tests of a written and, or -/
def TsOk (I : Info) (k : Bool) (es : List Expr) (ev : Env → R Bool) : Prop :=
  ∃ t : TT, (∀ X pos, XOk I X → PW X (.BoolOp (if k = true then .And else .Or) es pos) t) ∧
    ∀ B F ω H σ env T Q, Sta I.K B F ω H σ env T → Want (ev env) (fun c => ∀ F' ω' H', Sta I.K B F' ω' H' σ env T → Grow F ω H F' ω' H' → Q c H') (EXW I B σ env T F ω H) → t σ H Q
theorem ts_one {k : Bool} {e : Expr} {ev : Env → R Bool} (h : TOk I e ev) : TsOk I k [e] (fun env => do let b ← ev env; if b = k then .ok k else .ok b) := by
  obtain ⟨t, h1, h2⟩ := h
  refine ⟨t, fun X pos hX => ?_, fun B F ω H σ env T Q S W => ?_⟩
  · cases k with
    | true => exact pw_and1 (h1 X hX)
    | false => exact pw_or1 (h1 X hX)
  · refine h2 B F ω H σ env T _ S (W.bindM (fun x W1 F1 ω1 H1 S1 g1 => ?_) fun x h => h)
    by_cases e : x = k
    · subst e
      rw [if_pos rfl] at W1
      exact W1 _ _ _ S1 g1
    · rw [if_neg e] at W1
      exact W1 _ _ _ S1 g1
theorem ts_cons {k : Bool} {e e' : Expr} {es : List Expr} {ev evr : Env → R Bool} (h : TOk I e ev) (hr : TsOk I k (e' :: es) evr) : TsOk I k (e :: e' :: es) (fun env => do let b ← ev env; if b = k then evr env else .ok b) := by
  obtain ⟨t, h1, h2⟩ := h
  obtain ⟨u, g1, g2⟩ := hr
  cases k with
  | true =>
    refine ⟨tAnd t u, fun X pos hX => pw_and (h1 X hX) (g1 X pos hX), fun B F ω H σ env T Q S W => ?_⟩
    refine h2 B F ω H σ env T _ S (W.bindM (fun x W1 F1 ω1 H1 S1 q1 => ?_) fun x h => h)
    cases x with
    | true =>
      rw [if_pos rfl]
      rw [if_pos rfl] at W1
      exact g2 B F1 ω1 H1 σ env T _ S1 (W1.mono (fun c k F' ω' H' S' g => k F' ω' H' S' (q1.trans g)) fun x h => h.grow q1)
    | false => exact W1 _ _ _ S1 q1
  | false =>
    refine ⟨tOr t u, fun X pos hX => pw_or (h1 X hX) (g1 X pos hX), fun B F ω H σ env T Q S W => ?_⟩
    refine h2 B F ω H σ env T _ S (W.bindM (fun x W1 F1 ω1 H1 S1 q1 => ?_) fun x h => h)
    cases x with
    | false =>
      show u σ H1 Q
      have W1 : Want (evr env) _ _ := W1
      exact g2 B F1 ω1 H1 σ env T _ S1 (W1.mono (fun c k F' ω' H' S' g => k F' ω' H' S' (q1.trans g)) fun x h => h.grow q1)
    | true =>
      show Q true H1
      exact W1 _ _ _ S1 q1
theorem t_bo {k : Bool} {es : List Expr} {pos : Pos} {ev : Env → R Bool} (h : TsOk I k es ev) : TOk I (.BoolOp (if k = true then .And else .Or) es pos) ev := by
  obtain ⟨t, h1, h2⟩ := h
  exact ⟨t, fun X hX => (h1 X pos hX).pt, h2⟩
end TI
set_option Elab.async false
set_option linter.all false
set_option maxRecDepth 10000
/-! TI7: more constructs: truths as values, places, slices, displays, calls. -/
namespace TI
open PySem PySem.Spec PyProof.Rows L2
variable {K : PySem.W.Frag} {B : Base} {F F' H H' : Hp} {ω ω' : Om} {σ : L2.St} {env : Env} {T : List (V × D)} {d : D} {v : V} {I : Info} {m : M}

theorem e_no {a : Expr} {pos : Pos} {eva : Env → R D} (ha : EOk I .f a eva) : EOk I m (.UnaryOp .Not a pos) (fun env => do let x ← eva env; let b ← isBl x; .ok (.bl (!b))) := by
  obtain ⟨ta, pa, sa⟩ := ha.se
  refine ⟨tNotV ta, fun X hX => ⟨pe_not (pa X hX), fun h => by cases h⟩, fun B F ω H σ env T Q S W => ?_⟩
  refine sa B F ω H σ env T _ S (W.bindM (fun x W1 vx F1 ω1 H1 R1 g1 => ?_) fun x h => h)
  obtain ⟨b, rfl, W1⟩ := W1.isBl
  obtain ⟨S1, r1⟩ := R1
  cases r1
  exact ⟨b, rfl, W1 _ _ _ _ (Res.of S1 rfl) g1⟩
/-- and, or of truths as values -/
def BVOk (I : Info) (m : M) (k : Bool) (es : List Expr) (ev : Env → R D) : Prop :=
  ∃ t : TE, (∀ X pos, XOk I X → PE X (.BoolOp (if k = true then .And else .Or) es pos) t) ∧ SE I m t ev
theorem bv_one {k : Bool} {e : Expr} {ev : Env → R D} (h : EOk I m e ev) : BVOk I m k [e] ev := by
  obtain ⟨t, h1, h2⟩ := h.se
  exact ⟨t, fun X pos hX => pe_one (h1 X hX), h2⟩
theorem bv_cons {k : Bool} {e e' : Expr} {es : List Expr} {ev evr : Env → R D} (h : EOk I .f e ev) (hr : BVOk I m k (e' :: es) evr) :
    BVOk I m k (e :: e' :: es) (fun env => do let x ← ev env; let b ← isBl x; if b = k then evr env else .ok (.bl b)) := by
  obtain ⟨t, h1, h2⟩ := h.se
  obtain ⟨u, g1, g2⟩ := hr
  cases k with
  | true =>
    refine ⟨tAndV t u, fun X pos hX => pe_and (h1 X hX) (g1 X pos hX), fun B F ω H σ env T Q S W => ?_⟩
    refine h2 B F ω H σ env T _ S (W.bindM (fun x W1 vx F1 ω1 H1 R1 q1 => ?_) fun x h => h)
    obtain ⟨b, rfl, W2⟩ := W1.isBl
    obtain ⟨S1, r1⟩ := R1
    cases r1
    refine ⟨b, rfl, ?_⟩
    cases b with
    | true =>
      rw [if_pos rfl]
      rw [if_pos rfl] at W2
      exact g2 B F1 ω1 H1 σ env T _ S1 (W2.mono (fun c k v F' ω' H' S' g => k v F' ω' H' S' (q1.trans g)) fun x h => h.grow q1)
    | false => exact W2 _ _ _ _ (Res.of S1 rfl) q1
  | false =>
    refine ⟨tOrV t u, fun X pos hX => pe_or (h1 X hX) (g1 X pos hX), fun B F ω H σ env T Q S W => ?_⟩
    refine h2 B F ω H σ env T _ S (W.bindM (fun x W1 vx F1 ω1 H1 R1 q1 => ?_) fun x h => h)
    obtain ⟨b, rfl, W2⟩ := W1.isBl
    obtain ⟨S1, r1⟩ := R1
    cases r1
    refine ⟨b, rfl, ?_⟩
    cases b with
    | false =>
      show u σ H1 Q
      have W2 : Want (evr env) _ _ := W2
      exact g2 B F1 ω1 H1 σ env T _ S1 (W2.mono (fun c k v F' ω' H' S' g => k v F' ω' H' S' (q1.trans g)) fun x h => h.grow q1)
    | true => exact W2 _ _ _ _ (Res.of S1 rfl) q1
theorem e_bo {k : Bool} {es : List Expr} {pos : Pos} {ev : Env → R D} (h : BVOk I m k es ev) : EOk I m (.BoolOp (if k = true then .And else .Or) es pos) ev := by
  obtain ⟨t, h1, h2⟩ := h
  exact ⟨t, fun X hX => ⟨h1 X pos hX, fun h => by cases h⟩, h2⟩
theorem e_ite {c a b : Expr} {pos : Pos} {evc : Env → R Bool} {eva evb : Env → R D} (hc : TOk I c evc) (ha : EOk I m a eva) (hb : EOk I m b evb) :
    EOk I m (.IfExp c a b pos) (fun env => do let t ← evc env; if t = true then eva env else evb env) := by
  obtain ⟨tc, pc, sc⟩ := hc
  obtain ⟨ta, pa, sa⟩ := ha.se
  obtain ⟨tb, pb, sb⟩ := hb.se
  refine ⟨tIf tc ta tb, fun X hX => ⟨pe_ifExp (pc X hX) (pa X hX) (pb X hX), fun h => by cases h⟩, fun B F ω H σ env T Q S W => ?_⟩
  refine sc B F ω H σ env T _ S (W.bindM (fun x W1 F1 ω1 H1 S1 q1 => ?_) fun x h => h)
  cases x with
  | true =>
    rw [if_pos rfl]
    rw [if_pos rfl] at W1
    exact sa B F1 ω1 H1 σ env T _ S1 (W1.mono (fun c k v F' ω' H' S' g => k v F' ω' H' S' (q1.trans g)) fun x h => h.grow q1)
  | false =>
    have W1 : Want (evb env) _ _ := W1
    exact sb B F1 ω1 H1 σ env T _ S1 (W1.mono (fun c k v F' ω' H' S' g => k v F' ω' H' S' (q1.trans g)) fun x h => h.grow q1)

/-! ### places -/
theorem R.assoc {α β γ : Type} (r : R α) (f : α → R β) (g : β → R γ) : (r >>= f) >>= g = r >>= fun a => f a >>= g := by cases r <;> rfl
theorem atI_some {α : Type} {xs : List α} {i : Int} {x : α} (h : atI xs i = some x) : ∃ j, ixN xs.length i = some j ∧ xs[j]? = some x := by
  unfold atI at h
  cases e : ixN xs.length i with
  | none => rw [e] at h; cases h
  | some j => rw [e] at h; exact ⟨j, rfl, h⟩
theorem atI_of {α : Type} {xs : List α} {i : Int} {x : α} {n j : Nat} (hn : xs.length = n) (h : ixN n i = some j) (hx : xs[j]? = some x) : atI xs i = some x := by
  unfold atI
  rw [hn, h]; exact hx
def rIxA (K : PySem.W.Frag) : R2 := rIx K
def notSlice : Expr → Bool
  | .Slice .. => false
  | _ => true
theorem plainIx {b : Expr} (h : notSlice b = true) : PlainIx b := fun o i => by
  cases b <;> first | rfl | (simp [notSlice] at h)
theorem ix_ok {ma : M} {x y : D} {vx vy : V} {Q : VK} {ex : Exn → Prop} (S : Sta K B F ω H σ env T) (hx : Hold K ma F H ω x vx) (hy : Rep K F y vy)
    (W : Want (do let d ← ixD x y; gM m d; R.ok d) (fun d => ∀ v F' ω' H', Res K m B F' ω' H' σ env T v d → Grow F ω H F' ω' H' → Q v H') ex) : rIx K vx vy H Q := by
  obtain ⟨t, path, hz⟩ := hx.own
  clear hx
  unfold ixD at W
  split at W
  · rename_i o xs i
    cases hy
    obtain ⟨d, e, W⟩ := Want.ofO W
    obtain ⟨j, e1, e2⟩ := atI_some e
    cases o with
    | true =>
      rw [Own] at hz
      obtain ⟨p, vs, rfl, h1, _, h2⟩ := hz
      obtain ⟨u, h3, h4⟩ := h2.get e2
      obtain ⟨k, r⟩ := Res.ofHold S h4 W
      exact .inl ⟨p, vs, i, u, rfl, rfl, SqL.of h1, atI_of (owns_len h2) e1 h3, k _ _ _ _ r Grow.refl⟩
    | false =>
      rw [Own] at hz
      obtain ⟨p, vs, rfl, h1, h2⟩ := rep_lst S hz
      obtain ⟨u, h3, h4⟩ := h2.get e2
      obtain ⟨k, r⟩ := Res.ofHold S (h4.own (H := H) (ω := ω) (t := (0, 0)) (path := [])) W
      exact .inl ⟨p, vs, i, u, rfl, rfl, SqL.of h1, atI_of (reps_len h2) e1 h3, k _ _ _ _ r Grow.refl⟩
  · rename_i xs i
    cases hy
    obtain ⟨d, e, W⟩ := Want.ofO W
    obtain ⟨j, e1, e2⟩ := atI_some e
    rw [Own] at hz
    obtain ⟨p, vs, rfl, h1, h2⟩ := rep_tup S hz
    obtain ⟨u, h3, h4⟩ := h2.get e2
    obtain ⟨k, r⟩ := Res.ofHold S (h4.own (H := H) (ω := ω) (t := (0, 0)) (path := [])) W
    exact .inr (.inl ⟨p, vs, i, u, rfl, rfl, h1, atI_of (reps_len h2) e1 h3, k _ _ _ _ r Grow.refl⟩)
  · rename_i xs i
    cases hy
    rw [Own] at hz
    obtain ⟨p, rfl, h1⟩ := rep_scr S hz
    rw [R.assoc] at W
    obtain ⟨n, e, W⟩ := Want.ofO W
    obtain ⟨j, e1, e2⟩ := atI_some e
    obtain ⟨k, r⟩ := Res.ofHold (F := F) (H := H) (ω := ω) (d := .int n) (v := .int n) S (t := (0, 0)) (path := []) rfl W
    exact .inl ⟨p, _, i, .int n, rfl, rfl, h1, atI_of (by simp) e1 (by simp [e2]), k _ _ _ _ r Grow.refl⟩
  · rename_i s i
    cases hy
    cases hz
    rw [R.assoc] at W
    obtain ⟨h1, W⟩ := Want.gd W
    rw [R.assoc] at W
    obtain ⟨n, e, W⟩ := Want.ofO W
    obtain ⟨k, r⟩ := Res.ofHold (F := F) (H := H) (ω := ω) (d := .str ⟨#[n]⟩) (v := .str ⟨#[n]⟩) S (t := (0, 0)) (path := []) rfl W
    exact .inr (.inr ⟨s, i, n, rfl, rfl, lim_line (of_decide_eq_true h1), e, k _ _ _ _ r Grow.refl⟩)
  · exact W.elim
theorem e_ix {a b : Expr} {pos : Pos} {eva evb : Env → R D} (ha : EOk I .b a eva) (hb : EOk I .f b evb) (hn : notSlice b = true) :
    EOk I m (.Subscript a b pos) (fun env => do let x ← eva env; let y ← evb env; let d ← ixD x y; gM m d; .ok d) := by
  obtain ⟨ta, pa, sa⟩ := ha.se
  obtain ⟨tb, pb, sb⟩ := hb.se
  refine EOk.of (tOp (rIx I.K) ta tb) (fun X hX => by rw [← hX.K]; exact pe_ix ix_seq (pa X hX) (pb X hX) (plainIx hn)) rfl ?_
  exact SE.two (by decide) (by decide) sa sb fun B F ω H σ env T Q x y vx vy S hx hy W => ix_ok S hx hy W

/-! ### slices, lengths -/
theorem o_none : OOk I none (fun _ => .ok none) :=
  ⟨tNoPart, fun X hX => po_none, fun B F ω H σ env T Q S W => W _ _ _ S Grow.refl⟩
theorem o_some {e : Expr} {ev : Env → R D} (h : EOk I .f e ev) : OOk I (some e) (fun env => do let x ← ev env; let i ← isInt x; .ok (some i)) := by
  obtain ⟨t, h1, h2⟩ := h.se
  refine ⟨tPart t, fun X hX => po_some (h1 X hX), fun B F ω H σ env T Q S W => ?_⟩
  refine h2 B F ω H σ env T _ S (W.bindM (fun x W1 vx F1 ω1 H1 R1 g1 => ?_) fun x h => h)
  obtain ⟨i, rfl, W2⟩ := W1.isInt
  obtain ⟨S1, r1⟩ := R1
  cases r1
  exact ⟨i, rfl, W2 _ _ _ S1 g1⟩
theorem reps_cut {xs : List D} {vs : List V} {lo hi : Option Int} (h : Reps K F xs vs) : Reps K F (cutL xs lo hi) (cutV vs lo hi) := by
  unfold cutL cutV
  rw [reps_len h]
  exact reps_take (reps_drop h)
def rSl (K : PySem.W.Frag) : V → Option Int → Option Int → Hp → VK → Prop := fun x lo hi H Q => rSlL K x lo hi H Q ∨ rSlF K x lo hi H Q
theorem sl_ok {ma : M} {x : D} {vx : V} {lo hi : Option Int} {Q : VK} {ex : Exn → Prop} (S : Sta K B F ω H σ env T) (hx : Hold K ma F H ω x vx) (hk : kidsF x = true) (hs : ∀ s, x ≠ .str s)
    (W : Want (slD (m == .o) x lo hi) (fun d => ∀ v F' ω' H', Res K m B F' ω' H' σ env T v d → Grow F ω H F' ω' H' → Q v H') ex) : rSl K vx lo hi H Q := by
  cases x with
  | lst o xs =>
    obtain ⟨p, vs, rfl, h1, h2⟩ := hold_lst S hx hk
    exact .inl ⟨p, vs, rfl, SqL.of h1, S.allocL (reps_cut h2) W⟩
  | tup xs =>
    obtain ⟨t, path, hz⟩ := hx.own
    rw [Own] at hz
    obtain ⟨p, vs, e, h1, h2⟩ := rep_tup S hz
    subst e
    refine .inr ⟨p, vs, rfl, h1, fun hw => ?_, fun _ => S.allocT (reps_cut h2) W⟩
    have e : cutL xs lo hi = xs := by
      unfold cutL
      rw [reps_len h2] at hw
      rw [hw.1, hw.2]; simp
    have W : Want (R.ok (D.tup (cutL xs lo hi))) _ _ := W
    rw [e] at W
    exact W _ _ _ _ (Res.of S hz) Grow.refl
  | scr ns =>
    obtain ⟨t, path, hz⟩ := hx.own
    rw [Own] at hz
    obtain ⟨p, rfl, h1⟩ := rep_scr S hz
    refine .inl ⟨p, _, rfl, h1, S.allocL (ds := (cutL ns lo hi).map .int) ?_ W⟩
    have e : cutV (ns.map V.int) lo hi = (cutL ns lo hi).map V.int := by
      unfold cutV cutL
      rw [List.map_take, List.map_drop, List.length_map]
    rw [e]
    exact reps_ints
  | str s => exact absurd rfl (hs s)
  | _ => exact W.elim
theorem e_sl {a : Expr} {lo hi : Option Expr} {p2 pos : Pos} {eva : Env → R D} {evl evh : Env → R (Option Int)} (ha : EOk I .b a eva) (hl : OOk I lo evl) (hh : OOk I hi evh) :
    EOk I m (.Subscript a (.Slice lo hi none p2) pos) (fun env => do let x ← eva env; gd (kidsF x && !isStr x); let l ← evl env; let h ← evh env; slD (m == .o) x l h) := by
  obtain ⟨ta, pa, sa⟩ := ha.se
  obtain ⟨tl, pl, sl⟩ := hl
  obtain ⟨th, ph, sh⟩ := hh
  refine EOk.of (tSl (rSl I.K) ta tl th) (fun X hX => by rw [← hX.K]; exact pe_slice (sl_list.or sl_tupF) (pa X hX) (pl X hX) (ph X hX)) rfl fun B F ω H σ env T Q S W => ?_
  refine sa B F ω H σ env T _ S (W.bindM (fun x W1 vx F1 ω1 H1 R1 g1 => ?_) fun x h => h)
  obtain ⟨S1, r1⟩ := R1.hold (by decide)
  obtain ⟨k, W2⟩ := W1.gd
  rw [Bool.and_eq_true] at k
  refine sl B F1 ω1 H1 σ env T _ S1 (W2.bindM (fun l W3 F2 ω2 H2 S2 g2 => ?_) fun x h => h.grow g1)
  refine sh B F2 ω2 H2 σ env T _ S2 (W3.bindM (fun h W4 F3 ω3 H3 S3 g3 => ?_) fun x h => h.grow (g1.trans g2))
  exact sl_ok S3 ((r1.grow g2).grow g3) k.1 (fun s e => by subst e; simp [isStr] at k) (W4.mono (fun d k v F' ω' H' R g => k v F' ω' H' R (((g1.trans g2).trans g3).trans g)) fun x h => h)
theorem len_ok {ma : M} {x : D} {vx : V} {Q : VK} {ex : Exn → Prop} (S : Sta K B F ω H σ env T) (hx : Hold K ma F H ω x vx)
    (W : Want (lenD x) (fun d => ∀ v F' ω' H', Res K m B F' ω' H' σ env T v d → Grow F ω H F' ω' H' → Q v H') ex) : ∃ n, LenV K vx H n ∧ Q (.int n) H := by
  obtain ⟨t, path, hz⟩ := hx.own
  cases x with
  | lst o xs =>
    have U := W _ _ _ _ (Res.of S (d := .int xs.length) (v := .int xs.length) rfl) Grow.refl
    cases o with
    | true =>
      rw [Own] at hz
      obtain ⟨p, vs, rfl, h1, _, h2⟩ := hz
      exact ⟨_, .inl ⟨vs, SqL.of h1, (owns_len h2).symm⟩, U⟩
    | false =>
      rw [Own] at hz
      obtain ⟨p, vs, rfl, h1, h2⟩ := rep_lst S hz
      exact ⟨_, .inl ⟨vs, SqL.of h1, (reps_len h2).symm⟩, U⟩
  | tup xs =>
    have U := W _ _ _ _ (Res.of S (d := .int xs.length) (v := .int xs.length) rfl) Grow.refl
    rw [Own] at hz
    obtain ⟨p, vs, rfl, h1, h2⟩ := rep_tup S hz
    exact ⟨_, .inr ⟨vs, h1, (reps_len h2).symm⟩, U⟩
  | scr xs =>
    have U := W _ _ _ _ (Res.of S (d := .int xs.length) (v := .int xs.length) rfl) Grow.refl
    rw [Own] at hz
    obtain ⟨p, rfl, h1⟩ := rep_scr S hz
    exact ⟨_, .inl ⟨_, h1, by simp⟩, U⟩
  | str s =>
    obtain ⟨k, W2⟩ := Want.gd W
    have U := W2 _ _ _ _ (Res.of S (d := .int s.length) (v := .int s.length) rfl) Grow.refl
    cases hz
    exact ⟨_, ⟨lim_line (of_decide_eq_true k), rfl⟩, U⟩
  | _ => exact W.elim
theorem notSt {e : Expr} (h : notStar e = true) {env : PySem.Env} : starEach [e] env = [(false, eval e env)] := star_cons h
theorem e_len {a : Expr} {p pos : Pos} {eva : Env → R D} (hI : IOk I) (hg : glB I.sc "len" = true) (ha : EOk I .b a eva) (hn : notStar a = true) :
    EOk I m (.Call (.Name "len" p) [a] [] pos) (fun env => do let x ← eva env; lenD x) := by
  obtain ⟨ta, pa, sa⟩ := ha.se
  refine EOk.of (tCB (fun xs H Q => ∃ x n, xs = [x] ∧ LenV I.K x H n ∧ Q (.int n) H) (tCons ta tNil)) (fun X hX => ?_) rfl fun B F ω H σ env T Q S W => ?_
  · rw [← hX.K]
    exact pe_callB call_len (glB_ok hX.sc hg) (by rw [hX.mg]; exact hI.blt _ (by decide)) PySem.boot_len (pa_cons (pa X hX) pa_nil (star_cons hn)) (by decide) (by decide) (star_cons hn)
  · refine sa B F ω H σ env T _ S (W.bindM (fun x W1 vx F1 ω1 H1 R1 g1 => ?_) fun x h => h)
    obtain ⟨S1, r1⟩ := R1.hold (by decide)
    obtain ⟨n, h1, h2⟩ := len_ok S1 r1 (W1.mono (fun d k v F' ω' H' R g => k v F' ω' H' R (g1.trans g)) fun x h => h)
    exact ⟨vx, n, rfl, h1, h2⟩

/-! ### displays, arguments -/
theorem es_nil : EsOk I [] (fun _ => .ok []) :=
  ⟨tNil, fun X hX => pa_nil, fun B F ω H σ env T Q S W => W _ _ _ _ S reps_nil Grow.refl, fun env ds h => by cases h; rfl⟩
theorem es_cons {e : Expr} {es : List Expr} {ev : Env → R D} {evr : Env → R (List D)} (h : EOk I .f e ev) (hr : EsOk I es evr) (hn : notStar e = true) :
    EsOk I (e :: es) (fun env => do let d ← ev env; let ds ← evr env; .ok (d :: ds)) := by
  obtain ⟨t, h1, h2⟩ := h.se
  obtain ⟨u, g1, g2, g3⟩ := hr
  refine ⟨tCons t u, fun X hX => pa_cons (h1 X hX) (g1 X hX) (star_cons hn), fun B F ω H σ env T Q S W => ?_, fun env ds h => ?_⟩
  · refine h2 B F ω H σ env T _ S (W.bindM (fun x W1 vx F1 ω1 H1 R1 q1 => ?_) fun x h => h)
    obtain ⟨S1, r1⟩ := R1
    refine g2 B F1 ω1 H1 σ env T _ S1 (W1.bindM (fun ds W2 vs F2 ω2 H2 S2 r2 q2 => ?_) fun x h => h.grow q1)
    exact W2 _ _ _ _ S2 (reps_cons (r1.mono q2.ex) r2) (q1.trans q2)
  · cases e1 : ev env with
    | ok d =>
      simp only [e1, ok_bind] at h
      cases e2 : evr env with
      | ok r =>
        simp only [e2, ok_bind] at h
        cases h
        simp [g3 env r e2]
      | exc x => simp only [e2] at h; cases h
      | fail => simp only [e2] at h; cases h
    | exc x => simp only [e1] at h; cases h
    | fail => simp only [e1] at h; cases h
theorem e_lst {es : List Expr} {pos : Pos} {ev : Env → R (List D)} (h : EsOk I es ev) : EOk I m (.List es pos) (fun env => do let ds ← ev env; gd (decide (ds.length ≤ lim)); .ok (.lst (m == .o) ds)) := by
  obtain ⟨t, h1, h2, _⟩ := h
  refine EOk.of (tLst t) (fun X hX => pe_lst (h1 X hX)) rfl fun B F ω H σ env T Q S W => ?_
  refine h2 B F ω H σ env T _ S (W.bindM (fun x W1 vx F1 ω1 H1 S1 r1 q1 => ?_) fun x h => h)
  obtain ⟨k, W2⟩ := W1.gd
  refine ⟨by rw [reps_len r1]; exact lim_line (of_decide_eq_true k), S1.allocL r1 fun v F' ω' H' R g => W2 v F' ω' H' R (q1.trans g)⟩
theorem e_tup {es : List Expr} {j : Nat} {pos : Pos} {ev : Env → R (List D)} (h : EsOk I es ev) : EOk I m (.Tuple es j pos) (fun env => do let ds ← ev env; gd (decide (ds.length ≤ lim)); .ok (.tup ds)) := by
  obtain ⟨t, h1, h2, _⟩ := h
  refine EOk.of (tTupF t) (fun X hX => pe_tupF (h1 X hX)) rfl fun B F ω H σ env T Q S W => ?_
  refine h2 B F ω H σ env T _ S (W.bindM (fun x W1 vx F1 ω1 H1 S1 r1 q1 => ?_) fun x h => h)
  obtain ⟨k, W2⟩ := W1.gd
  refine ⟨by rw [reps_len r1]; exact lim_line (of_decide_eq_true k), S1.allocT r1 fun v F' ω' H' R g => W2 v F' ω' H' R (q1.trans g)⟩
end TI
set_option Elab.async false
set_option linter.all false
set_option maxRecDepth 10000
/-! TI8: calls, targets, what is walked, comprehensions. -/
namespace TI
open PySem PySem.Spec PyProof.Rows L2
variable {K : PySem.W.Frag} {B : Base} {F F' H H' : Hp} {ω ω' : Om} {σ σ' : L2.St} {env env' : Env} {T : List (V × D)} {d : D} {v : V} {I : Info} {m : M} {p : Addr}

/-! ### behind a call -/
theorem Sta.call {L : List (V × D)} (S : Sta K B F ω H σ env T) (C : Sta K ⟨H, F, fun _ => False⟩ F' ω' H' [] [] L) (hL : L.length ≤ 1) :
    ∃ ω2, Sta K B F' ω2 H' σ env (T ++ L) ∧ Grow F ω H F' ω2 H' := by
  let ω2 : Om := fun a => match ω' a with
    | some ((1, 0), q) => some ((1, T.length), q)
    | _ => ω a
  have nC : ∀ a s, ω' a = some s → H a = none := fun a s h => by
    rcases C.pω a s h with z | z
    · exact z.elim
    · exact z
  have old : ∀ a s, ω a = some s → ω' a = none := fun a s h => by
    cases e : ω' a with
    | none => rfl
    | some s' => exact absurd (nC a s' e) (S.trk a s h)
  have o2 : ∀ a s, ω a = some s → ω2 a = some s := fun a s h => by simp only [ω2, old a s h]; exact h
  have hH : ∀ a o, H a = some o → H' a = some o := fun a o h => C.fr a o h (fun z => z)
  have g : Grow F ω H F' ω2 H' := ⟨C.keep, fun a s h => ⟨o2 a s h, by
    cases e : H a with
    | none => exact absurd e (S.trk a s h)
    | some o => exact hH a o e⟩⟩
  have cases2 : ∀ a s, ω2 a = some s → (∃ q, ω' a = some ((1, 0), q) ∧ s = ((1, T.length), q)) ∨ ω a = some s := fun a s h => by
    simp only [ω2] at h
    split at h
    · rename_i q e
      exact .inl ⟨q, e, by simpa using h.symm⟩
    · exact .inr h
  have nw : ∀ a, H a = none → B.io a ∨ B.H0 a = none := fun a h => S.newIo h
  refine ⟨ω2, ⟨C.ex, fun a s h => ?_, fun a s h => ?_, S.len, fun i d h => ?_, fun j v d h => ?_, fun a j q h => ?_, fun a o h1 h2 => hH a o (S.fr a o h1 h2), fun a o h => ?_, fun a s h => ?_, S.keep.trans C.keep⟩, g⟩
  · rcases cases2 a s h with ⟨q, e, _⟩ | e
    · exact C.dis a _ e
    · cases q : F' a with
      | none => rfl
      | some o =>
        rcases C.pF a o q with z | z | z
        · have z : F a = some o := z
          rw [S.dis a s e] at z; cases z
        · exact z.elim
        · exact absurd z (S.trk a s e)
  · rcases cases2 a s h with ⟨q, e, _⟩ | e
    · exact C.trk a _ e
    · rw [(g.cell a s e).2]; exact S.trk a s e
  · obtain ⟨v, h1, h2⟩ := S.slot i d h
    exact ⟨v, h1, h2.grow g⟩
  · by_cases hj : j < T.length
    · rw [List.getElem?_append_left hj] at h
      exact (S.temp j v d h).grow g
    · rw [List.getElem?_append_right (by omega)] at h
      have z : j - T.length = 0 := by
        have := (List.getElem?_eq_some_iff.mp h).1
        omega
      rw [z] at h
      have ej : j = T.length := by omega
      subst ej
      exact (C.temp 0 v d h).move (Evl.Ex.refl F') fun a q ha => ⟨by simp only [ω2, ha], rfl⟩
  · rcases cases2 a _ h with ⟨q', e, z⟩ | e
    · have l := C.low a 0 q' e
      simp only [Prod.mk.injEq, true_and] at z
      rw [List.length_append]
      omega
    · have := S.low a j q e
      rw [List.length_append]; omega
  · rcases C.pF a o h with z | z | z
    · exact S.pF a o z
    · exact z.elim
    · exact .inr (nw a z)
  · rcases cases2 a s h with ⟨q, e, _⟩ | e
    · exact nw a (nC a _ e)
    · exact S.pω a s e
theorem e_call {g n : Nat} {x : Str} {e : Expr} {es : List Expr} {p pos : Pos} {ev : Env → R (List D)} (hI : IOk I) (hn : I.nm g = some (x, n)) (hg : glB I.sc x = true) (hd : (x == sDbg) = false) (hl : (e :: es).length = n)
    (h : EsOk I (e :: es) ev) (hs : notStar e = true) (hp : (es.all notStar) = true) :
    EOk I m (.Call (.Name x p) (e :: es) [] pos) (fun env => do let ds ← ev env; let d ← I.Φ g ds; .ok (if m = .o then d else fz d)) := by
  obtain ⟨f, fd, ps, hps, hmg, hk, hb, hf⟩ := hI.fns g x n hn
  obtain ⟨t, h1, h2, h3⟩ := h
  refine EOk.of (tCall (spOf I.K I.cls ps.length (I.Φ g)) [] I.E t) (fun X hX => ?_) rfl fun B F ω H σ env T Q S W => ?_
  · refine pe_call (ds := []) (k := I.k) (CX := I.CX) (f := f) (fd := fd) (ps := ps) ?_ hX.room (glB_ok hX.sc hg) (by rw [hX.mg]; exact hmg) (by rw [hX.K]; exact hk) (by rw [hX.K]; exact hb) .nil hX.pass (h1 X hX) hd (star_cons hs) ?_
    · rw [hX.prog, hX.w, hX.K, hX.mg, hX.base]; exact hf
    · clear h1 h2 h3 hl
      induction es with
      | nil => rfl
      | cons a es ih =>
        rw [List.all_cons, Bool.and_eq_true] at hp
        rw [star_cons hp.1]
        exact ih hp.2
  · refine h2 B F ω H σ env T _ S ?_
    cases e1 : ev env with
    | fail => rw [e1] at W; exact W
    | exc x => rw [e1] at W; exact W
    | ok ds =>
      rw [e1] at W
      intro vs F1 ω1 H1 S1 r1 g1
      have W : Want (I.Φ g ds >>= _) _ _ := W
      rw [List.append_nil]
      refine ⟨by rw [reps_len r1, h3 env ds e1, hl, hps], F1, ds, S1.ex, r1, W.bindM (fun d W2 v F2 ω2 H2 C => ?_) fun x hx F2 ω2 H2 C => ?_⟩
      · obtain ⟨ω3, S3, g3⟩ := S1.call C (by simp)
        have W2 : ∀ (v : V) (F' : Hp) (ω' : Om) (H' : Hp), Res I.K m B F' ω' H' σ env T v (if m = .o then d else fz d) → Grow F ω H F' ω' H' → Q v H' := W2
        cases m with
        | o => exact W2 v F2 ω3 H2 S3 (g1.trans g3)
        | f =>
          obtain ⟨F4, ω4, S4, r4, g4⟩ := S3.freezeG S.low (g1.trans g3)
          exact W2 v F4 ω4 H2 (Res.of S4 r4) g4
        | b =>
          obtain ⟨F4, ω4, S4, r4, g4⟩ := S3.freezeG S.low (g1.trans g3)
          exact W2 v F4 ω4 H2 (Res.of S4 r4) g4
      · obtain ⟨ω3, S3, g3⟩ := S1.call C (by simp)
        rw [List.append_nil] at S3
        exact hI.xw x F2 H2 (hx F2 ω3 H2 S3 (g1.trans g3))

/-! ### built-ins -/
def biName : Bi → Str
  | .abs => "abs" | .max2 => "max" | .min2 => "min" | .int => "int" | .list => "list" | .tuple => "tuple" | .str => "str"
def rBi (K : PySem.W.Frag) : Bi → List V → Hp → VK → Prop
  | .abs => fun xs H Q => ∃ i, xs = [.int i] ∧ Q (.int (if i < 0 then -i else i)) H
  | .max2 => fun xs H Q => ∃ i j, xs = [.int i, .int j] ∧ Q (.int (if j > i then j else i)) H
  | .min2 => fun xs H Q => ∃ i j, xs = [.int i, .int j] ∧ Q (.int (if j < i then j else i)) H
  | .int => fun xs H Q => (∃ i, xs = [.int i] ∧ Q (.int i) H) ∨ ∃ k, xs = [.bl k] ∧ Q (.int (if k then 1 else 0)) H
  | .list => fun xs H Q => ∃ p ys, xs = [.ref p] ∧ (SqL K H p ys ∨ SqT K H p ys) ∧ ∀ l, H l = none → Q (.ref l) (upd H l (.lst ys))
  | .tuple => fun xs H Q => ∃ p ys, xs = [.ref p] ∧ ((SqL K H p ys ∧ FT H ys Q) ∨ (SqT K H p ys ∧ Q (.ref p) H))
  | .str => fun xs H Q => ∃ i : Int, xs = [.int i] ∧ i.natAbs.log2 < 1920 ∧ Q (.str (toString i)) H
theorem bi_call {X : Cx} {b : Bi} {e : Expr} {es : List Expr} {t : TA} {p pos : Pos} (hc : X.calm = true) (hg : Gl X (biName b)) (hm : X.mg (biName b) = none) (ha : PA X (e :: es) t)
    (he : starEach (e :: es) X.env = (false, eval e X.env) :: starEach es X.env) (hpl : (backTo pos (starEach es X.env)).any (·.1) = false) : PE X (.Call (.Name (biName b) p) (e :: es) [] pos) (tCB (rBi X.K b) t) := by
  cases b
  · exact pe_callB call_abs hg hm (by decide +kernel) ha (by decide) (by decide) he hpl
  · exact pe_callB (call_max2 hc) hg hm (by decide +kernel) ha (by decide) (by decide) he hpl
  · exact pe_callB (call_min2 hc) hg hm (by decide +kernel) ha (by decide) (by decide) he hpl
  · exact pe_callTy call_int1 hg hm (by decide +kernel) ha (by decide) (by decide) he hpl
  · exact pe_callTy call_list_of hg hm (by decide +kernel) ha (by decide) (by decide) he hpl
  · exact pe_callTy call_tupleF hg hm (by decide +kernel) ha (by decide) (by decide) he hpl
  · exact pe_callTy call_str_int hg hm (by decide +kernel) ha (by decide) (by decide) he hpl
theorem bi_ok {b : Bi} {ds : List D} {vs : List V} {Q : VK} {ex : Exn → Prop} (S : Sta K B F ω H σ env T) (r : Reps K F ds vs)
    (W : Want (biD b (m == .o) ds) (fun d => ∀ v F' ω' H', Res K m B F' ω' H' σ env T v d → Grow F ω H F' ω' H' → Q v H') ex) : rBi K b vs H Q := by
  unfold biD at W
  split at W
  · rw [Reps] at r; obtain ⟨u, ur, rfl, r1, r2⟩ := r; rw [Reps] at r2; subst r2; cases r1
    exact ⟨_, rfl, W _ _ _ _ (Res.of S rfl) Grow.refl⟩
  · rw [Reps] at r; obtain ⟨u, ur, rfl, r1, r2⟩ := r; rw [Reps] at r2; obtain ⟨u2, ur2, rfl, r3, r4⟩ := r2; rw [Reps] at r4; subst r4; cases r1; cases r3
    exact ⟨_, _, rfl, W _ _ _ _ (Res.of S rfl) Grow.refl⟩
  · rw [Reps] at r; obtain ⟨u, ur, rfl, r1, r2⟩ := r; rw [Reps] at r2; obtain ⟨u2, ur2, rfl, r3, r4⟩ := r2; rw [Reps] at r4; subst r4; cases r1; cases r3
    exact ⟨_, _, rfl, W _ _ _ _ (Res.of S rfl) Grow.refl⟩
  · rw [Reps] at r; obtain ⟨u, ur, rfl, r1, r2⟩ := r; rw [Reps] at r2; subst r2; cases r1
    exact .inl ⟨_, rfl, W _ _ _ _ (Res.of S rfl) Grow.refl⟩
  · rw [Reps] at r; obtain ⟨u, ur, rfl, r1, r2⟩ := r; rw [Reps] at r2; subst r2; cases r1
    exact .inr ⟨_, rfl, W _ _ _ _ (Res.of S rfl) Grow.refl⟩
  · rw [Reps] at r; obtain ⟨u, ur, rfl, r1, r2⟩ := r; rw [Reps] at r2; subst r2
    obtain ⟨p, ws, rfl, h1, h2⟩ := rep_lst S r1
    exact ⟨p, ws, rfl, .inl (SqL.of h1), S.allocL h2 W⟩
  · rw [Reps] at r; obtain ⟨u, ur, rfl, r1, r2⟩ := r; rw [Reps] at r2; subst r2
    obtain ⟨p, ws, rfl, h1, h2⟩ := rep_tup S r1
    exact ⟨p, ws, rfl, .inr h1, S.allocL h2 W⟩
  · rw [Reps] at r; obtain ⟨u, ur, rfl, r1, r2⟩ := r; rw [Reps] at r2; subst r2
    obtain ⟨p, rfl, h1⟩ := rep_scr S r1
    exact ⟨p, _, rfl, .inl h1, S.allocL reps_ints W⟩
  · rw [Reps] at r; obtain ⟨u, ur, rfl, r1, r2⟩ := r; rw [Reps] at r2; subst r2
    obtain ⟨p, ws, rfl, h1, h2⟩ := rep_lst S r1
    exact ⟨p, ws, rfl, .inl ⟨SqL.of h1, S.allocT h2 W⟩⟩
  · rw [Reps] at r; obtain ⟨u, ur, rfl, r1, r2⟩ := r; rw [Reps] at r2; subst r2
    obtain ⟨p, ws, e, h1, h2⟩ := rep_tup S r1
    subst e
    exact ⟨p, ws, rfl, .inr ⟨h1, W _ _ _ _ (Res.of S r1) Grow.refl⟩⟩
  · rw [Reps] at r; obtain ⟨u, ur, rfl, r1, r2⟩ := r; rw [Reps] at r2; subst r2; cases r1
    obtain ⟨k, W⟩ := Want.gd W
    have k := of_decide_eq_true k
    exact ⟨_, rfl, k, W _ _ _ _ (Res.of S rfl) Grow.refl⟩
  · exact W.elim
theorem star_all {es : List Expr} {pos : Pos} {env : PySem.Env} (h : es.all notStar = true) : (backTo pos (starEach es env)).any (·.1) = false := by
  induction es with
  | nil => rfl
  | cons a es ih =>
    rw [List.all_cons, Bool.and_eq_true] at h
    rw [star_cons h.1]
    exact ih h.2
theorem biName_in (b : Bi) : biName b ∈ (["len", "abs", "max", "min", "int", "list", "tuple", "str", "range", "set", "isinstance", "bool", "enumerate", "zip"] : List Str) := by
  cases b <;> decide
theorem e_bi {b : Bi} {e : Expr} {es : List Expr} {p pos : Pos} {ev : Env → R (List D)} (hI : IOk I) (hg : glB I.sc (biName b) = true)
    (h : EsOk I (e :: es) ev) (hs : (e :: es).all notStar = true) : EOk I m (.Call (.Name (biName b) p) (e :: es) [] pos) (fun env => do let ds ← ev env; biD b (m == .o) ds) := by
  obtain ⟨t, h1, h2, h3⟩ := h
  rw [List.all_cons, Bool.and_eq_true] at hs
  refine EOk.of (tCB (rBi I.K b) t) (fun X hX => ?_) rfl fun B F ω H σ env T Q S W => ?_
  · rw [← hX.K]
    exact bi_call hX.calm (glB_ok hX.sc hg) (by rw [hX.mg]; exact hI.blt _ (biName_in b)) (h1 X hX) (star_cons hs.1) (star_all hs.2)
  · refine h2 B F ω H σ env T _ S (W.bindM (fun ds W1 vs F1 ω1 H1 S1 r1 g1 => ?_) fun x h => h)
    exact bi_ok S1 r1 (W1.mono (fun d k v F' ω' H' R g => k v F' ω' H' R (g1.trans g)) fun x h => h)
theorem reps_rng (lo : Int) : ∀ n, Reps K F (rngD lo n) ((List.range n).map fun i => V.int (lo + (i : Nat))) := fun n => by
  unfold rngD
  induction (List.range n) with
  | nil => exact reps_nil
  | cons a l ih => exact reps_cons rfl ih
theorem e_rngl {a : Expr} {p q pos pos2 : Pos} {ev : Env → R D} (hI : IOk I) (hg : glB I.sc "list" = true) (hg2 : glB I.sc "range" = true) (h : EOk I .f a ev) (hn : notStar a = true) :
    EOk I m (.Call (.Name "list" p) [.Call (.Name "range" q) [a] [] pos2] [] pos) (fun env => do
      let x ← ev env
      let n ← isInt x
      gd (decide (n.natAbs < 2 ^ 62 ∧ n.toNat ≤ lim))
      .ok (.lst (m == .o) (rngD 0 n.toNat))) := by
  obtain ⟨t, h1, h2⟩ := h.se
  refine EOk.of (tLstRg (tRg1 t)) (fun X hX => ?_) rfl fun B F ω H σ env T Q S W => ?_
  · exact pe_listRg hX.calm (glB_ok hX.sc hg) (by rw [hX.mg]; exact hI.blt _ (by decide)) (prg_1 (glB_ok hX.sc hg2) (by rw [hX.mg]; exact hI.blt _ (by decide)) (h1 X hX) (star_cons hn)) (by rfl)
  · refine h2 B F ω H σ env T _ S (W.bindM (fun x W1 vx F1 ω1 H1 R1 g1 => ?_) fun x h => h)
    obtain ⟨n, rfl, W2⟩ := W1.isInt
    obtain ⟨S1, r1⟩ := R1
    cases r1
    obtain ⟨k, W3⟩ := W2.gd
    have k := of_decide_eq_true k
    refine ⟨n, rfl, ⟨by omega, by omega, by omega, by omega, ?_⟩, ?_⟩
    · have := k.2
      unfold lim at this
      omega
    · refine S1.allocL (ds := rngD 0 n.toNat) ?_ fun v F' ω' H' R g => W3 v F' ω' H' R (g1.trans g)
      unfold rgV
      rw [Int.sub_zero]
      exact reps_rng 0 n.toNat

/-! ### targets -/
theorem Sta.setFrz {i : Nat} (S : Sta K B F ω H σ env T) (r : Rep K F d v) : Sta K B F ω H (σ.set i (some v)) (env.set i (some d)) T :=
  ⟨S.ex, S.dis, S.trk, by simp [S.len], fun j d' h => by
    by_cases hj : i = j
    · subst hj
      by_cases hl : i < env.length
      · rw [List.getElem?_set_self hl] at h
        obtain rfl : d = d' := by simpa using h
        exact ⟨v, by rw [List.getElem?_set_self (by rw [← S.len]; exact hl)], r.own⟩
      · rw [List.getElem?_eq_none (by simpa using hl)] at h; cases h
    · rw [List.getElem?_set_ne hj] at h ⊢
      exact S.slot j d' h, S.temp, S.low, S.fr, S.pF, S.pω, S.keep⟩
theorem wipe_len (vs : List Nat) : (wipeE env vs).length = env.length := by
  induction vs with
  | nil => rfl
  | cons a vs ih => rw [wipeE, List.length_set]; exact ih
theorem wipeE_some {i : Nat} : ∀ {vs : List Nat}, (wipeE env vs)[i]? = some (some d) → env[i]? = some (some d) ∧ i ∉ vs
  | [], h => ⟨h, by simp⟩
  | a :: vs, h => by
    rw [wipeE] at h
    by_cases e : a = i
    · subst e
      by_cases hl : a < (wipeE env vs).length
      · rw [List.getElem?_set_self hl] at h; cases h
      · rw [List.getElem?_eq_none (by simpa using hl)] at h; cases h
    · rw [List.getElem?_set_ne e] at h
      obtain ⟨h1, h2⟩ := wipeE_some h
      exact ⟨h1, by simp; exact ⟨fun z => e z.symm, h2⟩⟩
theorem wipe_keep {i : Nat} : ∀ {vs : List Nat}, i ∉ vs → (wipe σ vs)[i]? = σ[i]?
  | [], _ => rfl
  | a :: vs, h => by
    simp only [List.mem_cons, not_or] at h
    rw [wipe, List.getElem?_set_ne (Ne.symm h.1)]
    exact wipe_keep h.2
theorem Sta.wipe (S : Sta K B F ω H σ env T) (vs : List Nat) : Sta K B F ω H (L2.wipe σ vs) (wipeE env vs) T :=
  ⟨S.ex, S.dis, S.trk, by rw [wipe_len, wipe_length, S.len], fun j d' h => by
    obtain ⟨h1, h2⟩ := wipeE_some h
    obtain ⟨v, h3, h4⟩ := S.slot j d' h1
    exact ⟨v, by rw [wipe_keep h2]; exact h3, h4⟩, S.temp, S.low, S.fr, S.pF, S.pω, S.keep⟩
theorem wipe_get (σ : L2.St) (i : Nat) : ∀ vs : List Nat, (L2.wipe σ vs)[i]? = if i ∈ vs then (σ[i]?).map (fun _ => none) else σ[i]?
  | [] => by simp [L2.wipe]
  | a :: vs => by
    rw [L2.wipe, List.getElem?_set, wipe_length]
    by_cases e : a = i
    · subst e
      rw [if_pos rfl]
      by_cases hl : a < σ.length
      · rw [if_pos hl, if_pos (by simp), List.getElem?_eq_getElem hl]; rfl
      · rw [if_neg hl, if_pos (by simp), List.getElem?_eq_none (by omega)]; rfl
    · rw [if_neg e, wipe_get σ i vs]
      by_cases z : i ∈ vs
      · rw [if_pos z, if_pos (by simp [z])]
      · rw [if_neg z, if_neg (by simp [z]; exact fun q => e q.symm)]
theorem wipe_set {i : Nat} {x : Option V} {vs : List Nat} (h : i ∈ vs) : L2.wipe (σ.set i x) vs = L2.wipe σ vs := by
  apply List.ext_getElem?
  intro j
  rw [wipe_get, wipe_get]
  by_cases hj : j ∈ vs
  · rw [if_pos hj, if_pos hj, List.getElem?_set]
    split
    · rename_i e
      subst e
      by_cases hl : i < σ.length
      · rw [if_pos hl, List.getElem?_eq_getElem hl]; rfl
      · rw [if_neg hl, List.getElem?_eq_none (by omega)]
    · rfl
  · rw [if_neg hj, if_neg hj, List.getElem?_set_ne]
    intro e; subst e; exact hj h
/-- a target's code is sound -/
def GOk (I : Info) (tg : Expr) (ct : CT) : Prop :=
  ∃ g : TG, (∀ X, XOk I X → PG X tg g) ∧ ∀ B F ω H σ env T d x env1 Q, Sta I.K B F ω H σ env T → Rep I.K F d x → bindT ct d env = .ok env1 →
    (∀ σ1, Sta I.K B F ω H σ1 env1 T → L2.wipe σ1 (slotsT ct) = L2.wipe σ (slotsT ct) → Q σ1 H) → g x σ H Q
def GsOk (I : Info) (tgs : List Expr) (is : List Nat) : Prop :=
  tgs.length = is.length ∧ ∃ g : TGs, (∀ X, XOk I X → PGs X tgs g) ∧ ∀ B F ω H σ env T ds xs env1 Q vs, Sta I.K B F ω H σ env T → Reps I.K F ds xs → bindT.bindM is ds env = .ok env1 → (∀ i ∈ is, i ∈ vs) →
    (∀ σ1, Sta I.K B F ω H σ1 env1 T → L2.wipe σ1 vs = L2.wipe σ vs → Q σ1 H) → g xs σ H Q
theorem pg_of {i : Nat} {x : Str} {pos : Pos} (hI : IOk I) (hN : I.N[i]? = some x) (hl : I.loc x = true) : ∀ X, XOk I X → PG X (.Name x pos) (gName i) := fun X hX => by
  obtain ⟨h1, h2⟩ := hX.loc x hl
  exact pg_name (by rw [hX.N]; exact hI.nd) (by rw [hX.N]; exact hN) h1 h2
theorem g_one {i : Nat} {x : Str} {pos : Pos} (hI : IOk I) (hN : I.N[i]? = some x) (hl : I.loc x = true) : GOk I (.Name x pos) (.one i) :=
  ⟨gName i, pg_of hI hN hl, fun B F ω H σ env T d x env1 Q S r h k => by
    cases h
    exact k _ (S.setFrz r) (wipe_set (by simp [slotsT]))⟩
theorem gs_nil : GsOk I [] [] :=
  ⟨rfl, gNil, fun X hX => pgs_nil, fun B F ω H σ env T ds xs env1 Q vs S r h hv k => by
    cases ds with
    | nil =>
      cases h
      rw [Reps] at r
      exact ⟨r, k _ S rfl⟩
    | cons a ds => cases h⟩
theorem gs_cons {i : Nat} {is : List Nat} {x : Str} {pos : Pos} {es : List Expr} (hI : IOk I) (hN : I.N[i]? = some x) (hl : I.loc x = true) (h : GsOk I es is) : GsOk I (.Name x pos :: es) (i :: is) := by
  obtain ⟨h0, g, h1, h2⟩ := h
  refine ⟨by simp [h0], gCons (gName i) g, fun X hX => pgs_cons (pg_of hI hN hl X hX) (h1 X hX) rfl, fun B F ω H σ env T ds xs env1 Q vs S r h hv k => ?_⟩
  cases ds with
  | nil => cases h
  | cons a ds =>
    rw [Reps] at r
    obtain ⟨u, ur, rfl, r1, r2⟩ := r
    refine ⟨u, ur, rfl, ?_⟩
    refine h2 B F ω H _ _ T ds ur env1 Q vs (S.setFrz r1) r2 h (fun j hj => hv j (List.mem_cons_of_mem _ hj)) fun σ1 S1 e1 => k σ1 S1 (e1.trans (wipe_set (hv i List.mem_cons_self)))
theorem noStarT {es : List Expr} {env : PySem.Env} (h : es.all notStar = true) : (assignEach es env).length = es.length ∧ (assignEach es env).findIdx? (·.1) = none := by
  induction es with
  | nil => exact ⟨rfl, rfl⟩
  | cons a es ih =>
    rw [List.all_cons, Bool.and_eq_true] at h
    obtain ⟨h1, h2⟩ := ih h.2
    have e : assignEach (a :: es) env = (false, assign a env) :: assignEach es env := by
      have := h.1
      cases a <;> first | rfl | (simp [notStar] at this)
    rw [e]
    exact ⟨by simp [h1], by rw [List.findIdx?_cons]; simp [h2]⟩
theorem bindM_len : ∀ {is : List Nat} {ds : List D} {env env1 : Env}, bindT.bindM is ds env = .ok env1 → ds.length = is.length
  | [], [], _, _, _ => rfl
  | [], _ :: _, _, _, h => by cases h
  | _ :: _, [], _, _, h => by cases h
  | i :: is, d :: ds, env, env1, h => by
    have := bindM_len (is := is) (ds := ds) (env := env.set i (some d)) (env1 := env1) h
    simp [this]
theorem g_many {is : List Nat} {es : List Expr} {j : Nat} {pos : Pos} (h : GsOk I es is) (hs : es.all notStar = true) : GOk I (.Tuple es j pos) (.many is) := by
  obtain ⟨h0, g, h1, h2⟩ := h
  refine ⟨gTup I.K is.length g, fun X hX => ?_, fun B F ω H σ env T d x env1 Q S r h k => ?_⟩
  · obtain ⟨n1, n2⟩ := noStarT (env := X.env) hs
    rw [← hX.K]
    exact pg_tup hX.calm (h1 X hX) (by rw [n1, h0]) n2
  · cases d with
    | tup ds =>
      obtain ⟨p, vs, rfl, e1, e2⟩ := rep_tup S r
      exact ⟨p, vs, rfl, e1, by rw [reps_len e2, bindM_len h], h2 B F ω H σ env T ds vs env1 Q is S e2 h (fun _ z => z) k⟩
    | pr ds =>
      obtain ⟨p, vs, rfl, e1, e2⟩ := rep_pr S r
      exact ⟨p, vs, rfl, e1, by rw [reps_len e2, bindM_len h], h2 B F ω H σ env T ds vs env1 Q is S e2 h (fun _ z => z) k⟩
    | _ => cases h
end TI
set_option Elab.async false
set_option linter.all false
set_option maxRecDepth 10000
/-! TI9: what is walked; comprehensions. -/
namespace TI
open PySem PySem.Spec PyProof.Rows L2
variable {K : PySem.W.Frag} {B : Base} {F F' H H' : Hp} {ω ω' : Om} {σ σ' : L2.St} {env env' : Env} {T : List (V × D)} {d : D} {v : V} {I : Info} {m : M} {p : Addr}

/-- J yields the data xs, from any state over F on -/
structure Walks (K : PySem.W.Frag) (J : It) (xs : List D) (F : Hp) : Prop where
  go : ∀ i x B F' ω' H' σ env T, xs[i]? = some x → Sta K B F' ω' H' σ env T → Ex F F' → J.go i H' ∧ ∀ v H2, J.yld i H' v H2 → ∃ F2, Sta K B F2 ω' H2 σ env T ∧ Grow F' ω' H' F2 ω' H2 ∧ Rep K F2 x v
  stop : ∀ B F' ω' H' σ env T, Sta K B F' ω' H' σ env T → Ex F F' → J.stop xs.length H'
def WOk (I : Info) (tg iter : Expr) (ev : Env → R (List D)) : Prop :=
  ∃ wi : TI, (∀ X, XOk I X → PI X tg iter wi) ∧
    ∀ B F ω H σ env T R, Sta I.K B F ω H σ env T → Want (ev env) (fun xs => ∀ J F' ω' H', Sta I.K B F' ω' H' σ env T → Walks I.K J xs F' → Grow F ω H F' ω' H' → R J H') (EXW I B σ env T F ω H) → wi σ H R
theorem Rep.lst {xs : List D} (h : F p = some (.lst vs)) (r : Reps K F xs vs) : Rep K F (.lst false xs) (.ref p) := by
  rw [Rep]; exact ⟨rfl, p, vs, rfl, h, r⟩
theorem walks_list {xs : List D} {vs : List V} (h : F p = some (.lst vs)) (r : Reps K F xs vs) : Walks K (Itl K p) xs F where
  go := fun i x B F' ω' H' σ env T hx S e => by
    obtain ⟨v, h1, h2⟩ := r.get hx
    have hq : SqL K H' p vs := SqL.of (S.ex _ _ (e _ _ h))
    refine ⟨⟨vs, v, hq, h1⟩, fun u H2 hy => ?_⟩
    obtain ⟨rfl, hy⟩ := hy
    have := hy vs hq
    rw [h1] at this
    cases this
    exact ⟨F', S, Grow.refl, h2.mono e⟩
  stop := fun B F' ω' H' σ env T S e => ⟨vs, SqL.of (S.ex _ _ (e _ _ h)), by rw [reps_len r]; exact Nat.le_refl _⟩
theorem walks_scr {ns : List Int} (h : SqL K F p (ns.map V.int)) : Walks K (Itl K p) (ns.map D.int) F where
  go := fun i x B F' ω' H' σ env T hx S e => by
    rw [List.getElem?_map] at hx
    cases hn : ns[i]? with
    | none => rw [hn] at hx; cases hx
    | some n =>
      rw [hn] at hx
      cases hx
      have hq : SqL K H' p (ns.map V.int) := Evl.ex_l S.ex (Evl.ex_l e h)
      refine ⟨⟨_, .int n, hq, by rw [List.getElem?_map, hn]; rfl⟩, fun u H2 hy => ?_⟩
      obtain ⟨rfl, hy⟩ := hy
      have := hy _ hq
      rw [List.getElem?_map, hn] at this
      cases this
      exact ⟨F', S, Grow.refl, rfl⟩
  stop := fun B F' ω' H' σ env T S e => ⟨_, Evl.ex_l S.ex (Evl.ex_l e h), by simp⟩
theorem walks_rng (lo : Int) (n : Nat) : Walks K (Itr lo n) (rngD lo n) F where
  go := fun i x B F' ω' H' σ env T hx S e => by
    unfold rngD at hx
    rw [List.getElem?_map] at hx
    by_cases hi : i < n
    · rw [List.getElem?_range hi] at hx
      cases hx
      refine ⟨hi, fun u H2 hy => ?_⟩
      obtain ⟨rfl, rfl⟩ := hy
      exact ⟨F', S, Grow.refl, rfl⟩
    · rw [List.getElem?_eq_none (by simpa using hi)] at hx; cases hx
  stop := fun B F' ω' H' σ env T S e => by show n ≤ _; unfold rngD; simp
theorem pair_new {x y : D} {a b : V} {Tq : Addr} (S : Sta K B F ω H σ env T) (hT : H Tq = none) (h1 : Rep K F x a) (h2 : Rep K F y b) :
    ∃ F2, Sta K B F2 ω (upd H Tq (.tup [a, b])) σ env T ∧ Grow F ω H F2 ω (upd H Tq (.tup [a, b])) ∧ Rep K F2 (.pr [x, y]) (.ref Tq) := by
  obtain ⟨S', g⟩ := S.newFrz (o := .tup [a, b]) hT
  refine ⟨_, S', g, ?_⟩
  rw [Rep]
  exact ⟨Tq, _, rfl, SqT.of upd_same, reps_cons (h1.mono g.ex) (reps_one (h2.mono g.ex))⟩
theorem walks_enum {xs : List D} {vs : List V} (h : F p = some (.lst vs)) (r : Reps K F xs vs) : Walks K (Ite K p) (enumD xs) F where
  go := fun i x B F' ω' H' σ env T hx S e => by
    unfold enumD at hx
    rw [List.getElem?_map, List.getElem?_zipIdx] at hx
    cases hn : xs[i]? with
    | none => rw [hn] at hx; cases hx
    | some d =>
      rw [hn] at hx
      simp at hx
      subst hx
      obtain ⟨v, h1, h2⟩ := r.get hn
      have hq : SqL K H' p vs := SqL.of (S.ex _ _ (e _ _ h))
      refine ⟨⟨vs, v, hq, h1⟩, fun u H2 hy => ?_⟩
      obtain ⟨Tq, w, rfl, hT, rfl, hy⟩ := hy
      have := hy vs hq
      rw [h1] at this
      cases this
      exact pair_new S hT rfl (h2.mono e)
  stop := fun B F' ω' H' σ env T S e => ⟨vs, SqL.of (S.ex _ _ (e _ _ h)), by rw [reps_len r]; simp [enumD]⟩
theorem zip_at {α β : Type} {xs : List α} {ys : List β} {i : Nat} {x : α × β} (h : (xs.zip ys)[i]? = some x) : xs[i]? = some x.1 ∧ ys[i]? = some x.2 := List.getElem?_zip_eq_some.mp h
theorem walks_zip {xs ys : List D} {vs us : List V} {p q : Addr} (h : F p = some (.lst vs)) (r : Reps K F xs vs) (h' : F q = some (.lst us)) (r' : Reps K F ys us) : Walks K (Itz K p q) (zipD xs ys) F where
  go := fun i x B F' ω' H' σ env T hx S e => by
    unfold zipD at hx
    rw [List.getElem?_map] at hx
    obtain ⟨z, hz, rfl⟩ := Option.map_eq_some_iff.mp hx
    obtain ⟨z1, z2⟩ := zip_at hz
    obtain ⟨v, h1, h2⟩ := r.get z1
    obtain ⟨w, h3, h4⟩ := r'.get z2
    have hq : SqL K H' p vs := SqL.of (S.ex _ _ (e _ _ h))
    have hq' : SqL K H' q us := SqL.of (S.ex _ _ (e _ _ h'))
    refine ⟨⟨vs, us, v, w, hq, hq', h1, h3⟩, fun u H2 hy => ?_⟩
    obtain ⟨Tq, a, b, rfl, hT, rfl, y1, y2⟩ := hy
    have k1 := y1 vs hq
    have k2 := y2 us hq'
    rw [h1] at k1; rw [h3] at k2
    cases k1; cases k2
    exact pair_new S hT (h2.mono e) (h4.mono e)
  stop := fun B F' ω' H' σ env T S e => ⟨vs, us, SqL.of (S.ex _ _ (e _ _ h)), SqL.of (S.ex _ _ (e _ _ h')), by
    rw [reps_len r, reps_len r']; simp only [zipD, List.length_map, List.length_zip]; omega⟩
theorem walks_tup {xs : List D} {vs : List V} (h : SqT K F p vs) (r : Reps K F xs vs) : Walks K (Itt K p) xs F where
  go := fun i x B F' ω' H' σ env T hx S e => by
    obtain ⟨v, h1, h2⟩ := r.get hx
    have hq : SqT K H' p vs := Evl.ex_t S.ex (Evl.ex_t e h)
    refine ⟨⟨vs, v, hq, h1⟩, fun u H2 hy => ?_⟩
    obtain ⟨rfl, hy⟩ := hy
    have := hy vs hq
    rw [h1] at this
    cases this
    exact ⟨F', S, Grow.refl, h2.mono e⟩
  stop := fun B F' ω' H' σ env T S e => ⟨vs, Evl.ex_t S.ex (Evl.ex_t e h), by rw [reps_len r]; exact Nat.le_refl _⟩
theorem walks_zipT {xs ys : List D} {vs us : List V} {p q : Addr} (h : SqT K F p vs) (r : Reps K F xs vs) (h' : SqT K F q us) (r' : Reps K F ys us) : Walks K (RZ.ItzT K p q) (zipD xs ys) F where
  go := fun i x B F' ω' H' σ env T hx S e => by
    unfold zipD at hx
    rw [List.getElem?_map] at hx
    obtain ⟨z, hz, rfl⟩ := Option.map_eq_some_iff.mp hx
    obtain ⟨z1, z2⟩ := zip_at hz
    obtain ⟨v, h1, h2⟩ := r.get z1
    obtain ⟨w, h3, h4⟩ := r'.get z2
    have hq : SqT K H' p vs := Evl.ex_t S.ex (Evl.ex_t e h)
    have hq' : SqT K H' q us := Evl.ex_t S.ex (Evl.ex_t e h')
    refine ⟨⟨vs, us, v, w, hq, hq', h1, h3⟩, fun u H2 hy => ?_⟩
    obtain ⟨Tq, a, b, rfl, hT, rfl, y1, y2⟩ := hy
    have k1 := y1 vs hq
    have k2 := y2 us hq'
    rw [h1] at k1; rw [h3] at k2
    cases k1; cases k2
    exact pair_new S hT (h2.mono e) (h4.mono e)
  stop := fun B F' ω' H' σ env T S e => ⟨vs, us, Evl.ex_t S.ex (Evl.ex_t e h), Evl.ex_t S.ex (Evl.ex_t e h'), by
    rw [reps_len r, reps_len r']; simp only [zipD, List.length_map, List.length_zip]; omega⟩

/-- either kind of sequence -/
def iSeq (K : PySem.W.Frag) (tl : TE) : TI := fun σ H R => tl σ H fun x H1 => ∃ a, x = .ref a ∧ (∃ xs, SqL K H1 a xs) ∧ R (Itl K a) H1
theorem foldSet {e : Expr} (h : notSet e = true) {env : PySem.Env} : ∀ x, foldedSetIterable e env x = pure x := fun x => by
  cases e <;> first | rfl | (simp [notSet] at h)
/-- over a list, a tuple, the script -/
theorem w_ex {tg iter : Expr} {ev : Env → R D} (h : EOk I .f iter ev) : WOk I tg iter (fun env => do let d ← ev env; itemsL d) := by
  obtain ⟨t, h1, h2⟩ := h.se
  refine ⟨iAny I.K t, fun X hX => by rw [← hX.K]; exact pi_any (h1 X hX), fun B F ω H σ env T R S W => ?_⟩
  refine h2 B F ω H σ env T _ S (W.bindM (fun d W1 v F1 ω1 H1 R1 g1 => ?_) fun x h => h)
  obtain ⟨S1, r1⟩ := R1
  cases d with
  | lst o xs =>
    rw [Rep] at r1
    obtain ⟨_, p, vs, rfl, e1, e2⟩ := r1
    exact ⟨p, rfl, .inl ⟨⟨vs, SqL.of (S1.ex _ _ e1)⟩, W1 _ _ _ _ S1 (walks_list e1 e2) g1⟩⟩
  | tup xs =>
    rw [Rep] at r1
    obtain ⟨p, vs, rfl, e1, e2⟩ := r1
    exact ⟨p, rfl, .inr ⟨⟨vs, (e1.mono S1.ex).sq⟩, W1 _ _ _ _ S1 (walks_tup e1.sq e2) g1⟩⟩
  | scr ns =>
    rw [Rep] at r1
    obtain ⟨p, rfl, e1⟩ := r1
    exact ⟨p, rfl, .inl ⟨⟨_, Evl.ex_l S1.ex e1⟩, W1 _ _ _ _ S1 (walks_scr e1) g1⟩⟩
  | _ => exact W1.elim
theorem w_rng1 {tg a : Expr} {p pos : Pos} {ev : Env → R D} (hI : IOk I) (hg : glB I.sc "range" = true) (h : EOk I .f a ev) (hn : notStar a = true) :
    WOk I tg (.Call (.Name "range" p) [a] [] pos) (fun env => do let x ← ev env; let n ← isInt x; gd (decide (n.natAbs < 2 ^ 62)); .ok (rngD 0 n.toNat)) := by
  obtain ⟨t, h1, h2⟩ := h.se
  refine ⟨iRng1 (tCons t tNil), fun X hX => pi_range1 (glB_ok hX.sc hg) (by rw [hX.mg]; exact hI.blt _ (by decide)) (pa_cons (h1 X hX) pa_nil (star_cons hn)) (star_cons hn), fun B F ω H σ env T R S W => ?_⟩
  refine h2 B F ω H σ env T _ S (W.bindM (fun d W1 v F1 ω1 H1 R1 g1 => ?_) fun x h => h)
  obtain ⟨n, rfl, W2⟩ := W1.isInt
  obtain ⟨S1, r1⟩ := R1
  cases r1
  obtain ⟨k, W3⟩ := W2.gd
  have k := of_decide_eq_true k
  exact ⟨n, rfl, by omega, by omega, W3 _ _ _ _ S1 (walks_rng 0 n.toNat) g1⟩
theorem w_rng2 {tg a b : Expr} {p pos : Pos} {eva evb : Env → R D} (hI : IOk I) (hg : glB I.sc "range" = true) (ha : EOk I .f a eva) (hb : EOk I .f b evb) (hn : notStar a = true) (hn' : notStar b = true) :
    WOk I tg (.Call (.Name "range" p) [a, b] [] pos) (fun env => do
      let x ← eva env
      let y ← evb env
      let i ← isInt x
      let j ← isInt y
      gd (decide (i.natAbs < 2 ^ 62 ∧ j.natAbs < 2 ^ 62))
      .ok (rngD i (j - i).toNat)) := by
  obtain ⟨t, h1, h2⟩ := ha.se
  obtain ⟨u, g1, g2⟩ := hb.se
  refine ⟨iRng2 (tCons t (tCons u tNil)), fun X hX => pi_range2 (glB_ok hX.sc hg) (by rw [hX.mg]; exact hI.blt _ (by decide)) (pa_cons (h1 X hX) (pa_cons (g1 X hX) pa_nil (star_cons hn')) (star_cons hn)) ?_ ?_, fun B F ω H σ env T R S W => ?_⟩
  · rw [star_cons hn, star_cons hn']; rfl
  · exact star_cons hn'
  · refine h2 B F ω H σ env T _ S (W.bindM (fun x W1 v F1 ω1 H1 R1 q1 => ?_) fun x h => h)
    obtain ⟨S1, r1⟩ := R1
    refine g2 B F1 ω1 H1 σ env T _ S1 (W1.bindM (fun y W2 v2 F2 ω2 H2 R2 q2 => ?_) fun x h => h.grow q1)
    obtain ⟨S2, r2⟩ := R2
    obtain ⟨i, rfl, W3⟩ := W2.isInt
    obtain ⟨j, rfl, W4⟩ := W3.isInt
    cases r1; cases r2
    obtain ⟨k, W5⟩ := W4.gd
    have k := of_decide_eq_true k
    exact ⟨i, j, rfl, ⟨by omega, by omega, by omega, by omega⟩, W5 _ _ _ _ S2 (walks_rng i _) (q1.trans q2)⟩
theorem w_enum {elts : List Expr} {kk : Nat} {tpos : Pos} {a : Expr} {p pos : Pos} {ev : Env → R D} (hI : IOk I) (hg : glB I.sc "enumerate" = true) (h : EOk I .f a ev) (hn : notStar a = true) :
    WOk I (.Tuple elts kk tpos) (.Call (.Name "enumerate" p) [a] [] pos) (fun env => do let x ← ev env; enumI x) := by
  obtain ⟨t, h1, h2⟩ := h.se
  refine ⟨iEnum I.K (tCons t tNil), fun X hX => by rw [← hX.K]; exact pi_enum (glB_ok hX.sc hg) (by rw [hX.mg]; exact hI.blt _ (by decide)) (pa_cons (h1 X hX) pa_nil (star_cons hn)) (star_cons hn), fun B F ω H σ env T R S W => ?_⟩
  refine h2 B F ω H σ env T _ S (W.bindM (fun d W1 v F1 ω1 H1 R1 g1 => ?_) fun x h => h)
  obtain ⟨S1, r1⟩ := R1
  cases d with
  | lst o xs =>
    rw [Rep] at r1
    obtain ⟨_, p, vs, rfl, e1, e2⟩ := r1
    exact ⟨p, vs, rfl, SqL.of (S1.ex _ _ e1), W1 _ _ _ _ S1 (walks_enum e1 e2) g1⟩
  | _ => exact W1.elim
theorem w_zip {elts : List Expr} {kk : Nat} {tpos : Pos} {a b : Expr} {p pos : Pos} {eva evb : Env → R D} (hI : IOk I) (hg : glB I.sc "zip" = true) (ha : EOk I .f a eva) (hb : EOk I .f b evb) (hn : notStar a = true) (hn' : notStar b = true) :
    WOk I (.Tuple elts kk tpos) (.Call (.Name "zip" p) [a, b] [] pos) (fun env => do let x ← eva env; let y ← evb env; zipI x y) := by
  obtain ⟨t, h1, h2⟩ := ha.se
  obtain ⟨u, g1, g2⟩ := hb.se
  refine ⟨RZ.iZipA I.K (tCons t (tCons u tNil)), fun X hX => by
    rw [← hX.K]
    exact RZ.pi_zipA (glB_ok hX.sc hg) (by rw [hX.mg]; exact hI.blt _ (by decide)) (pa_cons (h1 X hX) (pa_cons (g1 X hX) pa_nil (star_cons hn')) (star_cons hn)) (star_cons hn) (by rw [star_cons hn']; rfl), fun B F ω H σ env T R S W => ?_⟩
  refine h2 B F ω H σ env T _ S (W.bindM (fun x W1 v F1 ω1 H1 R1 q1 => ?_) fun x h => h)
  obtain ⟨S1, r1⟩ := R1
  refine g2 B F1 ω1 H1 σ env T _ S1 (W1.bindM (fun y W2 v2 F2 ω2 H2 R2 q2 => ?_) fun x h => h.grow q1)
  obtain ⟨S2, r2⟩ := R2
  unfold zipI at W2
  split at W2
  · rw [Rep] at r1 r2
    obtain ⟨_, a, vs, rfl, e1, e2⟩ := r1
    obtain ⟨_, b, us, rfl, e3, e4⟩ := r2
    have e1 := q2.ex _ _ e1
    exact ⟨a, b, vs, us, rfl, .inl ⟨SqL.of (S2.ex _ _ e1), SqL.of (S2.ex _ _ e3), W2 _ _ _ _ S2 (walks_zip e1 (e2.mono q2.ex) e3 e4) (q1.trans q2)⟩⟩
  · rw [Rep] at r1 r2
    obtain ⟨a, vs, rfl, e1, e2⟩ := r1
    obtain ⟨b, us, rfl, e3, e4⟩ := r2
    have e1 := Evl.ex_t q2.ex e1.sq
    exact ⟨a, b, vs, us, rfl, .inr ⟨Evl.ex_t S2.ex e1, Evl.ex_t S2.ex e3.sq, W2 _ _ _ _ S2 (walks_zipT e1 (e2.mono q2.ex) e3.sq e4) (q1.trans q2)⟩⟩
  · exact W2.elim
end TI
set_option Elab.async false
set_option linter.all false
set_option maxRecDepth 10000
/-! TI10: comprehensions. -/
namespace TI
open PySem PySem.Spec PyProof.Rows L2
variable {K : PySem.W.Frag} {B : Base} {F F' H H' : Hp} {ω ω' : Om} {σ σ' : L2.St} {env env' : Env} {T T' : List (V × D)} {d : D} {v : V} {I : Info} {m : M} {p : Addr}

/-- an owned cell is written -/
theorem Sta.write {t : Tag} {path : List Nat} {o : HO} (S : Sta K B F ω H σ env T) (hp : ω p = some (t, path)) (hl : env'.length = env.length) (hTl : T.length ≤ T'.length)
    (hs : ∀ (i : Nat) (d : D), env'[i]? = some (some d) → ((0, i) ≠ t ∧ env[i]? = some (some d)) ∨ ((0, i) = t ∧ ∃ v, σ[i]? = some (some v) ∧ Own K F (upd H p o) ω (0, i) d [] v))
    (ht : ∀ (j : Nat) (v : V) (d : D), T'[j]? = some (v, d) → ((1, j) ≠ t ∧ T[j]? = some (v, d)) ∨ ((1, j) = t ∧ Own K F (upd H p o) ω (1, j) d [] v)) :
    Sta K B F ω (upd H p o) σ env' T' := by
  have nF : F p = none := S.dis p _ hp
  have mv : ∀ {t2 : Tag} {d : D} {v : V}, t2 ≠ t → Own K F H ω t2 d [] v → Own K F (upd H p o) ω t2 d [] v := fun {t2 d v} hne h =>
    h.move (Evl.Ex.refl F) fun a q ha => ⟨ha, by
      rw [upd_ne]
      intro e
      subst e
      rw [hp] at ha
      simp at ha
      exact hne ha.1.symm⟩
  refine ⟨fun a u h => ?_, S.dis, fun a s h => ?_, hl.trans S.len, fun i d h => ?_, fun j v d h => ?_, fun a j q h => Nat.lt_of_lt_of_le (S.low a j q h) hTl, fun a u h1 h2 => ?_, S.pF, S.pω, S.keep⟩
  · rw [upd_ne (by intro e; subst e; rw [nF] at h; cases h)]
    exact S.ex a u h
  · by_cases e : a = p
    · subst e; rw [upd_same]; intro z; cases z
    · rw [upd_ne e]; exact S.trk a s h
  · rcases hs i d h with ⟨h1, h2⟩ | ⟨h1, v, h2, h3⟩
    · obtain ⟨v, h3, h4⟩ := S.slot i d h2
      exact ⟨v, h3, mv h1 h4⟩
    · exact ⟨v, h2, h3⟩
  · rcases ht j v d h with ⟨h1, h2⟩ | ⟨h1, h2⟩
    · exact mv h1 (S.temp j v d h2)
    · exact h2
  · by_cases e : a = p
    · subst e
      rcases S.pω a _ hp with z | z
      · exact absurd z h2
      · rw [z] at h1; cases h1
    · rw [upd_ne e]; exact S.fr a u h1 h2
/-- a waiting owned list gets one more item -/
theorem Sta.appT {acc : List D} {accV : List V} {y : V} (S : Sta K B F ω H σ env (T ++ [(.ref p, .lst true acc)])) (hω : ω p = some ((1, T.length), [])) (ra : Reps K F acc accV) (rd : Rep K F d y) :
    Sta K B F ω (upd H p (.lst (accV ++ [y]))) σ env (T ++ [(.ref p, .lst true (acc ++ [d]))]) := by
  refine S.write (T' := T ++ [(.ref p, .lst true (acc ++ [d]))]) hω rfl (by simp) (fun i d h => .inl ⟨by simp, h⟩) fun j v d' h => ?_
  by_cases hj : j < T.length
  · rw [List.getElem?_append_left hj] at h
    exact .inl ⟨by simp; omega, by rw [List.getElem?_append_left hj]; exact h⟩
  · have ej : j = T.length := by
      have := (List.getElem?_eq_some_iff.mp h).1
      simp at this
      omega
    subst ej
    rw [List.getElem?_append_right (Nat.le_refl _)] at h
    simp at h
    obtain ⟨rfl, rfl⟩ := h
    refine .inr ⟨rfl, ?_⟩
    rw [Own]
    exact ⟨p, _, rfl, upd_same, hω, Reps.owns (reps_append ra (reps_one rd))⟩
/-- the slots of an earlier state, over the heap of a later one -/
theorem Sta.swap {σ1 : L2.St} {env1 : Env} (S' : Sta K B F' ω' H' σ1 env1 T) (S : Sta K B F ω H σ env T) (g : Grow F ω H F' ω' H') : Sta K B F' ω' H' σ env T :=
  ⟨S'.ex, S'.dis, S'.trk, S.len, fun i d h => by
    obtain ⟨v, h1, h2⟩ := S.slot i d h
    exact ⟨v, h1, h2.grow g⟩, S'.temp, S'.low, S'.fr, S'.pF, S'.pω, S'.keep⟩

theorem Owns.moveC {t t' : Tag} (e : Ex F F') : ∀ {xs : List D} {vs : List V} {path path' : List Nat} {j : Nat}, (∀ a k q, ω a = some (t, path ++ [k] ++ q) → ω' a = some (t', path' ++ [k] ++ q) ∧ H' a = H a) → Owns K F H ω t xs path j vs → Owns K F' H' ω' t' xs path' j vs
  | [], _, _, _, _, _, h => h
  | x :: xs, _, path, path', j, k, h => by
    rw [Owns] at h ⊢
    obtain ⟨v, vr, rfl, h1, h2⟩ := h
    exact ⟨v, vr, rfl, h1.move e (fun a q ha => k a j q ha), Owns.moveC e k h2⟩
theorem Sta.swapT {σ1 : L2.St} {env1 : Env} (S' : Sta K B F' ω' H' σ1 env1 T') (S : Sta K B F ω H σ env T) (g : Grow F ω H F' ω' H') : Sta K B F' ω' H' σ env T' :=
  ⟨S'.ex, S'.dis, S'.trk, S.len, fun i d h => by
    obtain ⟨v, h1, h2⟩ := S.slot i d h
    exact ⟨v, h1, h2.grow g⟩, S'.temp, S'.low, S'.fr, S'.pF, S'.pω, S'.keep⟩
/-- the tags of a waiting value that goes to the end of the list that waits ahead of it -/
def reTag (n k : Nat) (ω : Om) : Om := fun a => match ω a with
  | some ((1, j), q) => if j = n + 1 then some ((1, n), k :: q) else some ((1, j), q)
  | r => r
theorem reTag_other {n k : Nat} {a : Addr} {s : Tag × List Nat} (h : ω a = some s) (hs : s.1 ≠ (1, n + 1)) : reTag n k ω a = some s := by
  unfold reTag
  rw [h]
  obtain ⟨⟨t, j⟩, q⟩ := s
  match t with
  | 0 => rfl
  | 1 =>
    have : j ≠ n + 1 := fun e => hs (by simp [e])
    simp [this]
  | t + 2 => rfl
theorem reTag_it {n k : Nat} {a : Addr} {q : List Nat} (h : ω a = some ((1, n + 1), q)) : reTag n k ω a = some ((1, n), k :: q) := by
  unfold reTag
  rw [h]
  simp
theorem reTag_some {n k : Nat} {a : Addr} {s : Tag × List Nat} (h : reTag n k ω a = some s) : ∃ s', ω a = some s' := by
  cases e : ω a with
  | none => unfold reTag at h; rw [e] at h; cases h
  | some s' => exact ⟨s', rfl⟩
theorem Sta.appO {acc : List D} {y : V} (S : Sta K B F ω H σ env (T ++ [(.ref p, .lst true acc)] ++ [(y, d)])) (hω : ω p = some ((1, T.length), [])) :
    ∃ accV, H p = some (.lst accV) ∧ accV.length = acc.length ∧ Sta K B F (reTag T.length acc.length ω) (upd H p (.lst (accV ++ [y]))) σ env (T ++ [(.ref p, .lst true (acc ++ [d]))]) ∧ reTag T.length acc.length ω p = some ((1, T.length), []) := by
  have t1 := S.temp T.length (.ref p) (.lst true acc) (by simp)
  have t2 := S.temp (T.length + 1) y d (by simp)
  rw [Own] at t1
  obtain ⟨p', accV, ep, hH, _, hO⟩ := t1
  cases ep
  have ep : reTag T.length acc.length ω p = some ((1, T.length), []) := reTag_other hω (by simp)
  have nF : F p = none := S.dis p _ hω
  have mv : ∀ {t : Tag} {d : D} {v : V}, t ≠ (1, T.length) → t ≠ (1, T.length + 1) → Own K F H ω t d [] v → Own K F (upd H p (.lst (accV ++ [y]))) (reTag T.length acc.length ω) t d [] v := fun {t d v} h1 h2 h =>
    h.move (Evl.Ex.refl F) fun a q ha => ⟨reTag_other ha h2, by
      rw [upd_ne]
      intro e; subst e
      rw [hω] at ha
      simp at ha
      exact h1 ha.1.symm⟩
  refine ⟨accV, hH, owns_len hO, ⟨fun a u h => ?_, fun a s h => ?_, fun a s h => ?_, S.len, fun i d h => ?_, fun j v d' h => ?_, fun a j q h => ?_, fun a u h1 h2 => ?_, S.pF, fun a s h => ?_, S.keep⟩, ep⟩
  · rw [upd_ne (by intro e; subst e; rw [nF] at h; cases h)]
    exact S.ex a u h
  · obtain ⟨s', h⟩ := reTag_some h
    exact S.dis a _ h
  · by_cases e : a = p
    · subst e; rw [upd_same]; intro z; cases z
    · obtain ⟨s', h⟩ := reTag_some h
      rw [upd_ne e]; exact S.trk a _ h
  · obtain ⟨v, h1, h2⟩ := S.slot i d h
    exact ⟨v, h1, mv (by simp) (by simp) h2⟩
  · by_cases hj : j < T.length
    · rw [List.getElem?_append_left hj] at h
      refine mv (by simp; omega) (by simp; omega) (S.temp j v d' ?_)
      rw [List.append_assoc, List.getElem?_append_left hj]
      exact h
    · have ej : j = T.length := by
        have := (List.getElem?_eq_some_iff.mp h).1
        simp at this
        omega
      subst ej
      rw [List.getElem?_append_right (Nat.le_refl _)] at h
      simp at h
      obtain ⟨rfl, rfl⟩ := h
      rw [Own]
      refine ⟨p, _, rfl, upd_same, ep, owns_append ?_ ?_⟩
      · refine hO.moveC (Evl.Ex.refl F) fun a k q ha => ⟨reTag_other ha (by simp), ?_⟩
        rw [upd_ne]
        intro e; subst e
        rw [hω] at ha
        simp at ha
      · rw [Owns]
        refine ⟨y, [], rfl, ?_, by rw [Owns]⟩
        refine t2.move (Evl.Ex.refl F) fun a q ha => ?_
        rw [List.nil_append] at ha
        refine ⟨by rw [reTag_it ha]; simp, ?_⟩
        rw [upd_ne]
        intro e; subst e
        rw [hω] at ha
        simp at ha
  · cases e : ω a with
    | none => unfold reTag at h; rw [e] at h; cases h
    | some s =>
      obtain ⟨⟨t, j'⟩, q'⟩ := s
      by_cases h1 : (t, j') = ((1 : Nat), T.length + 1)
      · cases h1
        rw [reTag_it e] at h
        simp at h
        simp; omega
      · rw [reTag_other e h1] at h
        simp only [Option.some.injEq, Prod.mk.injEq] at h
        obtain ⟨⟨rfl, rfl⟩, rfl⟩ := h
        have := S.low a j' q' e
        simp at this
        have : j' ≠ T.length + 1 := fun z => h1 (by rw [z])
        simp; omega
  · by_cases e : a = p
    · subst e
      rcases S.pω a _ hω with z | z
      · exact absurd z h2
      · rw [z] at h1; cases h1
    · rw [upd_ne e]; exact S.fr a u h1 h2
  · obtain ⟨s', h⟩ := reTag_some h
    exact S.pω a _ h

mutual
theorem rep_fz : ∀ {d : D} {v : V}, Rep K F d v → fz d = d
  | .non, _, _ => rfl
  | .bl _, _, _ => rfl
  | .int _, _, _ => rfl
  | .str _, _, _ => rfl
  | .scr _, _, _ => rfl
  | .tup _, _, _ => rfl
  | .pr xs, _, h => by
    rw [Rep] at h
    obtain ⟨p, vs, _, _, h2⟩ := h
    rw [fz, reps_fz h2]
  | .lst o xs, _, h => by
    rw [Rep] at h
    obtain ⟨ho, p, vs, _, _, h2⟩ := h
    rw [fz, reps_fz h2, ho]
  | .dK o ks xs, _, h => by
    rw [Rep] at h
    obtain ⟨ho, p, vs, _, _, _, h2⟩ := h
    rw [fz, reps_fz h2, ho]
  | .dT o ks, _, h => by
    rw [Rep] at h
    obtain ⟨ho, p, as, _, _, _, h2⟩ := h
    rw [fz, ho]
theorem reps_fz : ∀ {xs : List D} {vs : List V}, Reps K F xs vs → fzs xs = xs
  | [], _, _ => rfl
  | x :: xs, _, h => by
    rw [Reps] at h
    obtain ⟨v, vr, _, h1, h2⟩ := h
    rw [fzs, rep_fz h1, reps_fz h2]
end

/-! ### a comprehension's block -/
def locS (scope : Scope) (x : Str) : Bool := match scope.names.lookup x with
  | some .local => true
  | some .cell => true
  | _ => false
abbrev blkI (I : Info) (scope : Scope) : Info := { I with sc := relS scope I.sc, loc := locS scope, E := E0, XW := fun _ _ _ => False }
theorem IOk.blk (h : IOk I) (scope : Scope) : IOk (blkI I scope) := ⟨h.nd, h.fns, h.blt, h.csts, fun _ _ _ z => z.elim, h.p0⟩
theorem XOk.blk {X : Cx} (hI : IOk I) (hX : XOk I X) (scope : Scope) (s : Shared) (H : Hp) (C : Addr) (cl : List (Str × Addr)) (fp : List Addr) : XOk (blkI I scope) (X.blk s H scope (compEnvC scope cl C X.env) fp) where
  prog := hX.prog
  w := hX.w
  K := hX.K
  mg := hX.mg
  base := hX.base
  N := hX.N
  sc := by
    show relS scope X.env.scope = relS scope I.sc
    rw [hX.sc]
  loc := fun x h => by
    have h : locS scope x = true := h
    unfold locS at h
    have keep : ∀ k, k ≠ NameKind.free → scope.names.lookup x = some k → (relS scope X.env.scope).names.lookup x = some k := fun k hk e => lookup_relS_keep hk e
    split at h
    · rename_i e
      exact ⟨.inl (keep _ (by decide) e), .inr (keep _ (by decide) e)⟩
    · rename_i e
      refine ⟨.inr (keep _ (by decide) e), .inl ?_⟩
      show (scope.names.lookup x == some NameKind.cell) = true
      rw [e]; rfl
    · cases h
  calm := hX.calm
  room := hX.room
  pass := hI.p0 _ hX.prog hX.w
def CdOk (I : Info) (ifs : List Expr) (ev : Env → R Bool) : Prop :=
  ∃ t : TT, (∀ X, XOk I X → PTs X ifs t) ∧
    ∀ B F ω H σ env T Q, Sta I.K B F ω H σ env T → Want (ev env) (fun c => ∀ F' ω' H', Sta I.K B F' ω' H' σ env T → Grow F ω H F' ω' H' → Q c H') (EXW I B σ env T F ω H) → t σ H Q
theorem c_none : CdOk I [] (fun _ => .ok true) := ⟨tYes, fun X hX => pts_nil, fun B F ω H σ env T Q S W => W _ _ _ S Grow.refl⟩
theorem c_one {c : Expr} {ev : Env → R Bool} (h : TOk I c ev) : CdOk I [c] ev := by
  obtain ⟨t, h1, h2⟩ := h
  exact ⟨t, fun X hX => pts_one (h1 X hX), h2⟩
def compF (ct : CT) (evc : Env → R Bool) (eve : Env → R D) (env : Env) : D → R (Option D) := fun x => R.noX (do
  let env1 ← bindT ct x (wipeE env (slotsT ct))
  let c ← evc env1
  if c = true then do let d ← eve env1; .ok (some d) else .ok none)
theorem compF_ok {ct : CT} {evc : Env → R Bool} {eve : Env → R D} {x : D} {r : Option D} (h : compF ct evc eve env x = .ok r) :
    ∃ env1 c, bindT ct x (wipeE env (slotsT ct)) = .ok env1 ∧ evc env1 = .ok c ∧ ((c = true ∧ ∃ d, eve env1 = .ok d ∧ r = some d) ∨ (c = false ∧ r = none)) := by
  unfold compF at h
  cases e1 : bindT ct x (wipeE env (slotsT ct)) with
  | fail => rw [e1] at h; cases h
  | exc x => rw [e1] at h; cases h
  | ok env1 =>
    rw [e1, ok_bind] at h
    cases e2 : evc env1 with
    | fail => rw [e2] at h; cases h
    | exc x => rw [e2] at h; cases h
    | ok c =>
      rw [e2, ok_bind] at h
      cases c with
      | false => cases h; exact ⟨env1, false, rfl, e2, .inr ⟨rfl, rfl⟩⟩
      | true =>
        rw [if_pos rfl] at h
        cases e3 : eve env1 with
        | fail => rw [e3] at h; cases h
        | exc x => rw [e3] at h; cases h
        | ok d => rw [e3] at h; cases h; exact ⟨env1, true, rfl, e2, .inl ⟨rfl, d, e3, rfl⟩⟩
theorem compF_nx {ct : CT} {evc : Env → R Bool} {eve : Env → R D} {x : D} {y : Exn} : compF ct evc eve env x ≠ .exc y := fun h => by
  unfold compF R.noX at h
  split at h
  · cases h
  · rename_i hn
    exact hn y h
theorem compL_nx {f : D → R (Option D)} (hf : ∀ x y, f x ≠ .exc y) : ∀ {xs : List D} {y : Exn}, compL f xs ≠ .exc y
  | [], _, h => by cases h
  | x :: xs, y, h => by
    rw [compL] at h
    cases e : f x with
    | fail => rw [e] at h; cases h
    | exc z => exact hf x z e
    | ok r =>
      rw [e, ok_bind] at h
      cases r with
      | none => exact compL_nx hf h
      | some u =>
        simp only at h
        cases e2 : compL f xs with
        | fail => rw [e2] at h; cases h
        | exc z => exact compL_nx hf e2
        | ok r => rw [e2] at h; cases h
theorem wipe_idem {vs : List Nat} : L2.wipe (L2.wipe σ vs) vs = L2.wipe σ vs := by
  apply List.ext_getElem?
  intro j
  rw [wipe_get, wipe_get]
  by_cases hj : j ∈ vs
  · rw [if_pos hj, if_pos hj, Option.map_map]; rfl
  · rw [if_neg hj, if_neg hj]
def ownS (N : List Str) (ct : CT) : List (Str × Nat) := (slotsT ct).map fun i => (N.getD i "", i)
theorem ownS_snd (N : List Str) (ct : CT) : (ownS N ct).map (·.2) = slotsT ct := by
  unfold ownS
  rw [List.map_map]
  exact List.map_id' _
theorem comp_seF (hm : m ≠ .o) {ct : CT} {wi : TI} {g : TG} {tt : TT} {te : TE} {evi : Env → R (List D)} {evc : Env → R Bool} {eve : Env → R D} {scope : Scope}
    (hw : ∀ B F ω H σ env T R, Sta I.K B F ω H σ env T → Want (evi env) (fun xs => ∀ J F' ω' H', Sta I.K B F' ω' H' σ env T → Walks I.K J xs F' → Grow F ω H F' ω' H' → R J H') (EXW I B σ env T F ω H) → wi σ H R)
    (hg : ∀ B F ω H σ env T d x env1 Q, Sta I.K B F ω H σ env T → Rep I.K F d x → bindT ct d env = .ok env1 → (∀ σ1, Sta I.K B F ω H σ1 env1 T → L2.wipe σ1 (slotsT ct) = L2.wipe σ (slotsT ct) → Q σ1 H) → g x σ H Q)
    (hc : ∀ B F ω H σ env T Q, Sta I.K B F ω H σ env T → Want (evc env) (fun c => ∀ F' ω' H', Sta I.K B F' ω' H' σ env T → Grow F ω H F' ω' H' → Q c H') (EXW (blkI I scope) B σ env T F ω H) → tt σ H Q)
    (he : SE (blkI I scope) .f te eve) :
    SE I m (tLc wi g tt te (slotsT ct)) (fun env => do let xs ← evi env; let ds ← compL (compF ct evc eve env) xs; compR (m == .o) ds) := by
  intro B F ω H σ env T Q S W
  refine hw B F ω H σ env T _ S (W.bindM (fun xs W1 J F1 ω1 H1 S1 wk g1 => ?_) fun x h => h)
  intro Dd hD
  cases e1 : compL (compF ct evc eve env) xs with
  | fail => rw [e1] at W1; exact W1.elim
  | exc x => exact absurd e1 (compL_nx fun _ _ => compF_nx)
  | ok ds =>
    rw [e1, ok_bind] at W1
    unfold compR at W1
    obtain ⟨k, W2⟩ := W1.gd
    have k := of_decide_eq_true k
    refine ⟨fun i n H => n = xs.length - i ∧ i ≤ xs.length ∧ ∃ F' ω' acc accV rest, Sta I.K B F' ω' H σ env (T ++ [(.ref Dd, .lst true acc)]) ∧ Grow F1 ω1 H1 F' ω' H ∧ H Dd = some (.lst accV) ∧ ω' Dd = some ((1, T.length), []) ∧ Reps I.K F' acc accV ∧
      compL (compF ct evc eve env) (xs.drop i) = .ok rest ∧ acc ++ rest = ds, ⟨xs.length, by simp, Nat.zero_le _, ?_⟩, ?_⟩
    · obtain ⟨S2, g2⟩ := S1.newOwn (o := .lst []) (d := .lst true []) hD fun H' ω' h1 h2 => by
        rw [Own]; exact ⟨Dd, [], rfl, h1, h2, by rw [Owns]⟩
      exact ⟨F1, _, [], [], ds, S2, g2, upd_same, updO_same, reps_nil, by rw [List.drop_zero]; exact e1, rfl⟩
    · rintro i n H2 ⟨rfl, hi, F2, ω2, acc, accV, rest, S2, g2, hH2, hω2, ra, hr, hds⟩
      by_cases hlt : i < xs.length
      · have hx : xs[i]? = some xs[i] := List.getElem?_eq_getElem hlt
        obtain ⟨go, yl⟩ := wk.go i xs[i] B F2 ω2 H2 σ env _ hx S2 g2.ex
        have hcons : xs.drop i = xs[i] :: xs.drop (i + 1) := List.drop_eq_getElem_cons hlt
        rw [hcons, compL] at hr
        cases ef : compF ct evc eve env xs[i] with
        | fail => rw [ef] at hr; cases hr
        | exc x => exact absurd ef compF_nx
        | ok r =>
          rw [ef, ok_bind] at hr
          obtain ⟨env1, c, b1, b2, b3⟩ := compF_ok ef
          refine .inr ⟨go, fun H' => xs.length - (i + 1) = xs.length - (i + 1) ∧ i + 1 ≤ xs.length ∧ ∃ F' ω' acc accV rest, Sta I.K B F' ω' H' σ env (T ++ [(.ref Dd, .lst true acc)]) ∧ Grow F1 ω1 H1 F' ω' H' ∧ H' Dd = some (.lst accV) ∧ ω' Dd = some ((1, T.length), []) ∧ Reps I.K F' acc accV ∧
            compL (compF ct evc eve env) (xs.drop (i + 1)) = .ok rest ∧ acc ++ rest = ds, fun H' h => ⟨_, by omega, h⟩, fun x H3 hy => ?_⟩
          obtain ⟨F3, S3, g3, r3⟩ := yl x H3 hy
          refine hg B F3 ω2 H3 _ _ _ xs[i] x env1 _ (S3.wipe (slotsT ct)) r3 b1 fun σ4 S4 hw4 => ?_
          refine ⟨hw4.trans wipe_idem, ?_⟩
          refine hc B F3 ω2 H3 σ4 env1 _ _ S4 ?_
          rw [b2]
          intro F5 ω5 H5 S5 g5
          rcases b3 with ⟨rfl, d, b4, rfl⟩ | ⟨rfl, rfl⟩
          · rw [if_pos rfl]
            refine he B F5 ω5 H5 σ4 env1 _ _ S5 ?_
            rw [b4]
            intro y F6 ω6 H6 R6 g6
            obtain ⟨S6, r6⟩ := R6
            simp only at hr
            cases er : compL (compF ct evc eve env) (xs.drop (i + 1)) with
            | fail => rw [er] at hr; cases hr
            | exc x => rw [er] at hr; cases hr
            | ok rest2 =>
              rw [er, ok_bind] at hr
              cases hr
              have gA := (g3.trans g5).trans g6
              obtain ⟨c1, c2⟩ := gA.cell Dd _ hω2
              have S7 := S6.swap S3 (g5.trans g6)
              have hlen : accV.length < lim := by
                have h1 := congrArg List.length hds
                simp only [List.length_append, List.length_cons] at h1
                rw [reps_len ra]
                omega
              have ra' := ra.mono gA.ex
              refine ⟨accV, by rw [c2]; exact hH2, Nat.lt_of_lt_of_le hlen (by decide), rfl, by omega, F6, ω6, acc ++ [d], accV ++ [y], rest2, S7.appT c1 ra' r6, ?_, upd_same, c1, reps_append ra' (reps_one r6), rfl, by rw [← hds]; simp⟩
              refine ⟨(g2.trans gA).ex, fun a s h => ⟨((g2.trans gA).cell a s h).1, ?_⟩⟩
              rw [upd_ne (by intro e; subst e; exact S1.trk _ s h hD)]
              exact ((g2.trans gA).cell a s h).2
          · have hr : compL (compF ct evc eve env) (xs.drop (i + 1)) = .ok rest := hr
            refine ⟨rfl, by omega, F5, ω5, acc, accV, rest, S5.swap S3 g5, g2.trans (g3.trans g5), ?_, ?_, ra.mono (g3.trans g5).ex, hr, hds⟩
            · rw [((g3.trans g5).cell Dd _ hω2).2]; exact hH2
            · exact ((g3.trans g5).cell Dd _ hω2).1
      · have ei : i = xs.length := by omega
        subst ei
        rw [List.drop_length] at hr
        cases hr
        rw [List.append_nil] at hds
        subst hds
        refine .inl ⟨wk.stop B F2 ω2 H2 σ env _ S2 g2.ex, ?_⟩
        cases m with
        | o => exact absurd rfl hm
        | f =>
          obtain ⟨F4, ω4, S4, r4, g4⟩ := S2.freezeG S.low (g1.trans g2)
          rw [fz, reps_fz ra] at r4
          exact W2 _ F4 ω4 H2 (Res.of S4 r4) g4
        | b =>
          obtain ⟨F4, ω4, S4, r4, g4⟩ := S2.freezeG S.low (g1.trans g2)
          rw [fz, reps_fz ra] at r4
          exact W2 _ F4 ω4 H2 (Res.of S4 r4) g4
theorem comp_seO {ct : CT} {wi : TI} {g : TG} {tt : TT} {te : TE} {evi : Env → R (List D)} {evc : Env → R Bool} {eve : Env → R D} {scope : Scope}
    (hw : ∀ B F ω H σ env T R, Sta I.K B F ω H σ env T → Want (evi env) (fun xs => ∀ J F' ω' H', Sta I.K B F' ω' H' σ env T → Walks I.K J xs F' → Grow F ω H F' ω' H' → R J H') (EXW I B σ env T F ω H) → wi σ H R)
    (hg : ∀ B F ω H σ env T d x env1 Q, Sta I.K B F ω H σ env T → Rep I.K F d x → bindT ct d env = .ok env1 → (∀ σ1, Sta I.K B F ω H σ1 env1 T → L2.wipe σ1 (slotsT ct) = L2.wipe σ (slotsT ct) → Q σ1 H) → g x σ H Q)
    (hc : ∀ B F ω H σ env T Q, Sta I.K B F ω H σ env T → Want (evc env) (fun c => ∀ F' ω' H', Sta I.K B F' ω' H' σ env T → Grow F ω H F' ω' H' → Q c H') (EXW (blkI I scope) B σ env T F ω H) → tt σ H Q)
    (he : SE (blkI I scope) .o te eve) :
    SE I .o (tLc wi g tt te (slotsT ct)) (fun env => do let xs ← evi env; let ds ← compL (compF ct evc eve env) xs; compR (M.o == .o) ds) := by
  intro B F ω H σ env T Q S W
  refine hw B F ω H σ env T _ S (W.bindM (fun xs W1 J F1 ω1 H1 S1 wk g1 => ?_) fun x h => h)
  intro Dd hD
  cases e1 : compL (compF ct evc eve env) xs with
  | fail => rw [e1] at W1; exact W1.elim
  | exc x => exact absurd e1 (compL_nx fun _ _ => compF_nx)
  | ok ds =>
    rw [e1, ok_bind] at W1
    unfold compR at W1
    obtain ⟨k, W2⟩ := W1.gd
    have k := of_decide_eq_true k
    refine ⟨fun i n H => n = xs.length - i ∧ i ≤ xs.length ∧ ∃ F' ω' acc rest, Sta I.K B F' ω' H σ env (T ++ [(.ref Dd, .lst true acc)]) ∧ Grow F1 ω1 H1 F' ω' H ∧ ω' Dd = some ((1, T.length), []) ∧
      compL (compF ct evc eve env) (xs.drop i) = .ok rest ∧ acc ++ rest = ds, ⟨xs.length, by simp, Nat.zero_le _, ?_⟩, ?_⟩
    · obtain ⟨S2, g2⟩ := S1.newOwn (o := .lst []) (d := .lst true []) hD fun H' ω' h1 h2 => by
        rw [Own]; exact ⟨Dd, [], rfl, h1, h2, by rw [Owns]⟩
      exact ⟨F1, _, [], ds, S2, g2, updO_same, by rw [List.drop_zero]; exact e1, rfl⟩
    · rintro i n H2 ⟨rfl, hi, F2, ω2, acc, rest, S2, g2, hω2, hr, hds⟩
      by_cases hlt : i < xs.length
      · have hx : xs[i]? = some xs[i] := List.getElem?_eq_getElem hlt
        obtain ⟨go, yl⟩ := wk.go i xs[i] B F2 ω2 H2 σ env _ hx S2 g2.ex
        have hcons : xs.drop i = xs[i] :: xs.drop (i + 1) := List.drop_eq_getElem_cons hlt
        rw [hcons, compL] at hr
        cases ef : compF ct evc eve env xs[i] with
        | fail => rw [ef] at hr; cases hr
        | exc x => exact absurd ef compF_nx
        | ok r =>
          rw [ef, ok_bind] at hr
          obtain ⟨env1, c, b1, b2, b3⟩ := compF_ok ef
          refine .inr ⟨go, fun H' => xs.length - (i + 1) = xs.length - (i + 1) ∧ i + 1 ≤ xs.length ∧ ∃ F' ω' acc rest, Sta I.K B F' ω' H' σ env (T ++ [(.ref Dd, .lst true acc)]) ∧ Grow F1 ω1 H1 F' ω' H' ∧ ω' Dd = some ((1, T.length), []) ∧
            compL (compF ct evc eve env) (xs.drop (i + 1)) = .ok rest ∧ acc ++ rest = ds, fun H' h => ⟨_, by omega, h⟩, fun x H3 hy => ?_⟩
          obtain ⟨F3, S3, g3, r3⟩ := yl x H3 hy
          refine hg B F3 ω2 H3 _ _ _ xs[i] x env1 _ (S3.wipe (slotsT ct)) r3 b1 fun σ4 S4 hw4 => ?_
          refine ⟨hw4.trans wipe_idem, ?_⟩
          refine hc B F3 ω2 H3 σ4 env1 _ _ S4 ?_
          rw [b2]
          intro F5 ω5 H5 S5 g5
          rcases b3 with ⟨rfl, d, b4, rfl⟩ | ⟨rfl, rfl⟩
          · rw [if_pos rfl]
            refine he B F5 ω5 H5 σ4 env1 _ _ S5 ?_
            rw [b4]
            intro y F6 ω6 H6 S6 g6
            simp only at hr
            cases er : compL (compF ct evc eve env) (xs.drop (i + 1)) with
            | fail => rw [er] at hr; cases hr
            | exc x => rw [er] at hr; cases hr
            | ok rest2 =>
              rw [er, ok_bind] at hr
              cases hr
              have gA := (g3.trans g5).trans g6
              obtain ⟨c1, c2⟩ := gA.cell Dd _ hω2
              have S6 : Sta I.K B F6 ω6 H6 σ4 env1 (T ++ [(.ref Dd, .lst true acc)] ++ [(y, d)]) := S6
              have S7 := S6.swapT S3 (g5.trans g6)
              obtain ⟨accV, hV, hl, S8, c3⟩ := S7.appO c1
              have hlen : accV.length < lim := by
                have h1 := congrArg List.length hds
                simp only [List.length_append, List.length_cons] at h1
                rw [hl]
                omega
              refine ⟨accV, hV, Nat.lt_of_lt_of_le hlen (by decide), rfl, by omega, F6, _, acc ++ [d], rest2, S8, ?_, c3, rfl, by rw [← hds]; simp⟩
              refine ⟨(g2.trans gA).ex, fun a s h => ?_⟩
              obtain ⟨e1, e2⟩ := (g2.trans gA).cell a s h
              refine ⟨reTag_other e1 ?_, ?_⟩
              · obtain ⟨⟨t, j⟩, q⟩ := s
                intro z
                cases z
                have := S1.low a _ q h
                omega
              · rw [upd_ne (by intro e; subst e; exact S1.trk _ s h hD)]
                exact e2
          · have hr : compL (compF ct evc eve env) (xs.drop (i + 1)) = .ok rest := hr
            exact ⟨rfl, by omega, F5, ω5, acc, rest, S5.swap S3 g5, g2.trans (g3.trans g5), ((g3.trans g5).cell Dd _ hω2).1, hr, hds⟩
      · have ei : i = xs.length := by omega
        subst ei
        rw [List.drop_length] at hr
        cases hr
        rw [List.append_nil] at hds
        subst hds
        refine .inl ⟨wk.stop B F2 ω2 H2 σ env _ S2 g2.ex, ?_⟩
        exact W2 _ F2 ω2 H2 S2 (g1.trans g2)
theorem comp_se {ct : CT} {wi : TI} {g : TG} {tt : TT} {te : TE} {evi : Env → R (List D)} {evc : Env → R Bool} {eve : Env → R D} {scope : Scope}
    (hw : ∀ B F ω H σ env T R, Sta I.K B F ω H σ env T → Want (evi env) (fun xs => ∀ J F' ω' H', Sta I.K B F' ω' H' σ env T → Walks I.K J xs F' → Grow F ω H F' ω' H' → R J H') (EXW I B σ env T F ω H) → wi σ H R)
    (hg : ∀ B F ω H σ env T d x env1 Q, Sta I.K B F ω H σ env T → Rep I.K F d x → bindT ct d env = .ok env1 → (∀ σ1, Sta I.K B F ω H σ1 env1 T → L2.wipe σ1 (slotsT ct) = L2.wipe σ (slotsT ct) → Q σ1 H) → g x σ H Q)
    (hc : ∀ B F ω H σ env T Q, Sta I.K B F ω H σ env T → Want (evc env) (fun c => ∀ F' ω' H', Sta I.K B F' ω' H' σ env T → Grow F ω H F' ω' H' → Q c H') (EXW (blkI I scope) B σ env T F ω H) → tt σ H Q)
    (he : SE (blkI I scope) (em m) te eve) :
    SE I m (tLc wi g tt te (slotsT ct)) (fun env => do let xs ← evi env; let ds ← compL (compF ct evc eve env) xs; compR (m == .o) ds) := by
  cases m with
  | o => exact comp_seO hw hg hc he
  | f => exact comp_seF (by decide) hw hg hc he
  | b => exact comp_seF (by decide) hw hg hc he
theorem e_comp {tg iter elt : Expr} {ifs : List Expr} {scope : Scope} {pos : Pos} {ct : CT} {evi : Env → R (List D)} {evc : Env → R Bool} {eve : Env → R D} (hI : IOk I) (hn : notSet iter = true) (hb : blkC I.N I.sc scope (ownS I.N ct) = true)
    (hw : WOk I tg iter evi) (hg : GOk (blkI I scope) tg ct) (hc : CdOk (blkI I scope) ifs evc) (he : EOk (blkI I scope) (em m) elt eve) :
    EOk I m (.ListComp elt [⟨tg, iter, ifs, 0⟩] scope pos) (fun env => do let xs ← evi env; let ds ← compL (compF ct evc eve env) xs; compR (m == .o) ds) := by
  obtain ⟨wi, w1, w2⟩ := hw
  obtain ⟨g, g1, g2⟩ := hg
  obtain ⟨tt, c1, c2⟩ := hc
  obtain ⟨te, e1, e2⟩ := he.se
  refine EOk.of (tLc wi g tt te (slotsT ct)) (fun X hX => ?_) rfl (comp_se (scope := scope) w2 g2 c2 e2)
  have h := pe_lc (X := X) (own := ownS I.N ct) (g := g) (tt := tt) (te := te) (pos := pos) (elt := elt) (ifs := ifs) hX.calm (by rw [hX.N]; exact hI.nd) (w1 X hX) (by rw [hX.N, hX.sc]; exact blkOk_by hb)
    (fun s H C cl fp => g1 _ (hX.blk hI scope s H C cl fp)) (fun s H C cl fp => c1 _ (hX.blk hI scope s H C cl fp)) (fun s H C cl fp => e1 _ (hX.blk hI scope s H C cl fp)) (foldSet hn)
  rw [ownS_snd] at h
  exact h
end TI
set_option Elab.async false
set_option linter.all false
set_option maxRecDepth 10000
/-! TI11: statements: what they reckon, and that it is so. -/
namespace TI
open PySem PySem.Spec PyProof.Rows L2

mutual
inductive CS where
  | set (i : Nat) (m : M) (e : CE)
  | par (i j : Nat) (a b : CE)
  | par3 (i j l : Nat) (a b c : CE)
  | parc (i j : Nat) (a b : CE)
  | unp (is : List Nat) (e : CE)
  | app (i : Nat) (e : CE)
  | appAt (i : Nat) (k e : CE)
  | appPop (i j : Nat) (k : CE)
  | ext (i : Nat) (e : CE)
  | setIx (i : Nat) (k e : CE)
  | dput (i : Nat) (k e : CE)
  | setIx2 (i : Nat) (j k e : CE)
  | ifs (c : CB) (a b : CSs)
  | fors (ct : CT) (it : CI) (kl : List Nat) (body : CSs)
  | whil (c : CB) (kl : List Nat) (body : CSs)
  | ret (e : CE)
  | retv (i : Nat)
  | exp (e : CE)
  | bad
  | frz (i : Nat)
  | rett (i j : Nat)
  | unpo (i j : Nat) (e : CE)
  | clr (i : Nat)
inductive CSs where
  | nil | cons (s : CS) (ss : CSs)
end
inductive RS where
  | nx (env : Env) | rt (d : D) (env : Env) | ex (x : Exn) | fail
def R.s {α : Type} : R α → (α → RS) → RS
  | .ok a, f => f a
  | .exc x, _ => .ex x
  | .fail, _ => .fail
@[simp] theorem ok_s {α : Type} (a : α) (f : α → RS) : (R.ok a).s f = f a := rfl
def RS.thn (r : RS) (f : Env → RS) : RS := match r with
  | .nx env => f env
  | r => r
@[simp] theorem nx_thn (env : Env) (f : Env → RS) : (RS.nx env).thn f = f env := rfl
@[simp] theorem rt_thn (d : D) (env : Env) (f : Env → RS) : (RS.rt d env).thn f = .rt d env := rfl

/-- an owned list in a slot -/
def ownL : Env → Nat → R (List D)
  | some (.lst true xs) :: _, 0 => .ok xs
  | _ :: e, n + 1 => ownL e n
  | _, _ => .fail
theorem ownL_ok : ∀ {env : Env} {i : Nat} {xs : List D}, ownL env i = .ok xs → env[i]? = some (some (.lst true xs))
  | some (.lst true _) :: _, 0, _, h => by cases h; rfl
  | some (.lst false _) :: _, 0, _, h => by cases h
  | some .non :: _, 0, _, h => by cases h
  | some (.bl _) :: _, 0, _, h => by cases h
  | some (.int _) :: _, 0, _, h => by cases h
  | some (.str _) :: _, 0, _, h => by cases h
  | some (.scr _) :: _, 0, _, h => by cases h
  | some (.tup _) :: _, 0, _, h => by cases h
  | some (.dK _ _ _) :: _, 0, _, h => by cases h
  | some (.dT _ _) :: _, 0, _, h => by cases h
  | some (.pr _) :: _, 0, _, h => by cases h
  | none :: _, 0, _, h => by cases h
  | a :: e, n + 1, xs, h => by
    rw [List.getElem?_cons_succ]
    refine ownL_ok (env := e) (i := n) ?_
    cases a with
    | none => exact h
    | some d => cases d <;> first | exact h | (rename_i o _; cases o <;> exact h)
  | [], 0, _, h => by cases h
  | [], n + 1, _, h => by cases h
def ownDT : Env → Nat → R (List (List Int))
  | some (.dT true ks) :: _, 0 => .ok ks
  | _ :: e, n + 1 => ownDT e n
  | _, _ => .fail
theorem ownDT_ok : ∀ {env : Env} {i : Nat} {xs : List (List Int)}, ownDT env i = .ok xs → env[i]? = some (some (.dT true xs))
  | [], 0, _, h => by cases h
  | [], n + 1, _, h => by cases h
  | a :: e, n + 1, xs, h => by
    rw [List.getElem?_cons_succ]
    refine ownDT_ok (env := e) (i := n) ?_
    cases a with
    | none => exact h
    | some d => cases d <;> first | exact h | (rename_i o _; cases o <;> exact h)
  | a :: e, 0, xs, h => by
    cases a with
    | none => cases h
    | some d =>
      cases d <;> first | (cases h; done) | (rename_i o _; cases o <;> first | (cases h; done) | (cases h; rfl))
theorem ownDT_nx : ∀ {env : Env} {i : Nat} {x : Exn}, ownDT env i ≠ .exc x
  | [], 0, _, h => by cases h
  | [], n + 1, _, h => by cases h
  | a :: e, n + 1, x, h => by
    refine ownDT_nx (env := e) (i := n) (x := x) ?_
    cases a with
    | none => exact h
    | some d => cases d <;> first | exact h | (rename_i o _; cases o <;> exact h)
  | a :: e, 0, xs, h => by
    cases a with
    | none => cases h
    | some d =>
      cases d <;> first | (cases h; done) | (rename_i o _; cases o <;> (cases h; done))
def asPr2 : D → R (D × D)
  | .pr [d, e] => .ok (d, e)
  | _ => .fail
def asKT : D → R (List Int)
  | .tup xs => ofO (intsD xs)
  | _ => .fail
def isTrue : D → R Unit
  | .bl true => .ok ()
  | _ => .fail
theorem ownL_nx : ∀ {env : Env} {i : Nat} {x : Exn}, ownL env i ≠ .exc x
  | a :: e, 0, x => by
    cases a with
    | none => intro h; cases h
    | some d => cases d <;> first | (intro h; cases h; done) | (rename_i o _; cases o <;> (intro h; cases h))
  | a :: e, n + 1, x => by
    have := ownL_nx (env := e) (i := n) (x := x)
    intro h
    apply this
    cases a with
    | none => exact h
    | some d => cases d <;> first | exact h | (rename_i o _; cases o <;> exact h)
  | [], 0, x => by intro h; cases h
  | [], n + 1, x => by intro h; cases h
def asOwn (d : D) : R (List D) := match d with
  | .lst true xs => .ok xs
  | _ => .fail
def asLst (d : D) : R (List D) := match d with
  | .lst _ xs => .ok xs
  | _ => .fail
def forL (body : Env → RS) (ct : CT) (kl : List Nat) : List D → Env → RS
  | [], env => .nx env
  | x :: xs, env => (bindT ct x env).s fun env1 => (body env1).thn fun env2 => forL body ct kl xs (wipeE env2 kl)
def whL (c : Env → R Bool) (body : Env → RS) (kl : List Nat) : Nat → Env → RS
  | 0, _ => .fail
  | n + 1, env => (c env).s fun b => if b = true then (body env).thn fun env2 => whL c body kl n (wipeE env2 kl) else .nx env

section
variable (Φ : Nat → List D → R D) (cst : Str → Option D) (n : Nat)
mutual
def evS : CS → Env → RS
  | .set i m e, env => (evX Φ cst m e env).s fun d => .nx (env.set i (some d))
  | .par i j a b, env => (evX Φ cst .f a env).s fun x => (evX Φ cst .f b env).s fun y => .nx ((env.set i (some x)).set j (some y))
  | .par3 i j l a b c, env => (evX Φ cst .f a env).s fun x => (evX Φ cst .f b env).s fun y => (evX Φ cst .f c env).s fun z => .nx (((env.set i (some x)).set j (some y)).set l (some z))
  | .parc i j a b, env => (evs Φ cst (.cons a (.cons b .nil)) env).s fun ds => (bindT (.many [i, j]) (.tup ds) env).s .nx
  | .unp is e, env => (evX Φ cst .f e env).s fun d => (bindT (.many is) d env).s .nx
  | .app i e, env => (ownL env i).s fun xs => (evX Φ cst .f e env).s fun d => (gd (decide (xs.length < lim))).s fun _ => .nx (env.set i (some (.lst true (xs ++ [d]))))
  | .appAt i k e, env => (ownL env i).s fun xs => (evX Φ cst .f k env).s fun y => (isInt y).s fun z => (ofO (ixN xs.length z)).s fun j => (ofO xs[j]?).s fun c => (asOwn c).s fun ys =>
      (evX Φ cst .f e env).s fun d => (gd (decide (ys.length < lim))).s fun _ => .nx (env.set i (some (.lst true (xs.set j (.lst true (ys ++ [d]))))))
  | .appPop i j k, env => (ownL env i).s fun xs => (ownL env j).s fun ys => (evX Φ cst .f k env).s fun y => (isInt y).s fun z => (ofO (ixN ys.length z)).s fun q => (ofO ys[q]?).s fun d =>
      (gd (isFs ys && decide (i ≠ j) && decide (xs.length < lim) && decide (ys.length < lim))).s fun _ => .nx ((env.set j (some (.lst true (ys.eraseIdx q)))).set i (some (.lst true (xs ++ [d]))))
  | .ext i e, env => (ownL env i).s fun xs => (evX Φ cst .f e env).s fun d => (asLst d).s fun ys => (gd (decide (xs.length + ys.length ≤ lim))).s fun _ => .nx (env.set i (some (.lst true (xs ++ ys))))
  | .setIx i k e, env => (evX Φ cst .f e env).s fun d => (ownL env i).s fun xs => (evX Φ cst .f k env).s fun y => (isInt y).s fun z => (ofO (ixN xs.length z)).s fun j => .nx (env.set i (some (.lst true (xs.set j d))))
  | .dput i k e, env => (evX Φ cst .f e env).s fun d => (isTrue d).s fun _ => (ownDT env i).s fun ks => (evX Φ cst .f k env).s fun y => (asKT y).s fun q => (gd (decide (ks.length < lim))).s fun _ => .nx (env.set i (some (.dT true (if hasK ks q = true then ks else ks ++ [q]))))
  | .setIx2 i j k e, env => (evX Φ cst .f e env).s fun d => (ownL env i).s fun xs => (evX Φ cst .f j env).s fun y => (isInt y).s fun z => (ofO (ixN xs.length z)).s fun q => (ofO xs[q]?).s fun c => (asOwn c).s fun ys =>
      (evX Φ cst .f k env).s fun y2 => (isInt y2).s fun z2 => (ofO (ixN ys.length z2)).s fun q2 => .nx (env.set i (some (.lst true (xs.set q (.lst true (ys.set q2 d))))))
  | .ifs c a b, env => (evT Φ cst c env).s fun t => if t = true then evSs a env else evSs b env
  | .fors ct it kl body, env => (evI Φ cst it env).s fun xs => forL (evSs body) ct kl xs env
  | .whil c kl body, env => whL (evT Φ cst c) (evSs body) kl n env
  | .ret e, env => (evX Φ cst .o e env).s fun d => .rt d env
  | .retv i, env => (getv env i).s fun d => .rt d (env.set i none)
  | .exp e, env => (evX Φ cst .f e env).s fun _ => .nx env
  | .bad, _ => .fail
  | .frz i, env => (getv env i).s fun d => .nx (env.set i (some (fz d)))
  | .rett i j, env => (getv env i).s fun d => (getv env j).s fun e => (gd (decide (i ≠ j))).s fun _ => .rt (.pr [d, e]) ((env.set i none).set j none)
  | .unpo i j e, env => (evX Φ cst .o e env).s fun d => (asPr2 d).s fun p => (gd (decide (i ≠ j))).s fun _ => .nx ((env.set i (some p.1)).set j (some p.2))
  | .clr i, env => (ownL env i).s fun _ => .nx (env.set i (some (.lst true [])))
def evSs : CSs → Env → RS
  | .nil, env => .nx env
  | .cons s ss, env => (evS s env).thn fun env1 => evSs ss env1
end
/-- a def's function -/
def evDef (N : Nat) (body : CSs) (ds : List D) : R D := match evSs Φ cst n body (ds.map some ++ List.replicate (N - ds.length) none) with
  | .rt d _ => .ok d
  | .nx _ => .ok .non
  | .ex x => .exc x
  | .fail => .fail
end

variable {K : PySem.W.Frag} {B : Base} {F F' H H' : Hp} {ω ω' : Om} {σ σ' : L2.St} {env env' : Env} {T T' : List (V × D)} {d : D} {v : V} {I : Info} {m : M} {p : Addr}

structure SOk (I : Info) (X : Cx) : Prop extends XOk I X where
  own : PassesOwn (model X.prog X.w) X.A X.env X.xe

def WantS (I : Info) (B : Base) (F : Hp) (r : RS) (D : Ends) : Prop := match r with
  | .nx env' => ∀ F' ω' H' σ', Sta I.K B F' ω' H' σ' env' [] → Ex F F' → D.nx σ' H'
  | .rt d env' => ∀ v F' ω' H' σ', Sta I.K B F' ω' H' σ' env' [(v, d)] → Ex F F' → D.rt v H'
  | .ex x => ∀ F' ω' H' σ' env', Sta I.K B F' ω' H' σ' env' [] → Ex F F' → I.XW x F' H'
  | .fail => False
theorem WantS.ext {r : RS} {D : Ends} (e : Ex F F') (h : WantS I B F r D) : WantS I B F' r D := by
  cases r with
  | nx env => exact fun F2 ω2 H2 σ2 S e2 => h F2 ω2 H2 σ2 S (e.trans e2)
  | rt d env => exact fun v F2 ω2 H2 σ2 S e2 => h v F2 ω2 H2 σ2 S (e.trans e2)
  | ex x => exact fun F2 ω2 H2 σ2 env2 S e2 => h F2 ω2 H2 σ2 env2 S (e.trans e2)
  | fail => exact h
theorem WantS.of {α : Type} {r : R α} {f : α → RS} {D : Ends} (h : WantS I B F (r.s f) D) : Want r (fun a => WantS I B F (f a) D) (fun x => ∀ F' ω' H' σ' env', Sta I.K B F' ω' H' σ' env' [] → Ex F F' → I.XW x F' H') := by
  cases r <;> exact h
theorem WantS.gd {c : Bool} {f : Unit → RS} {D : Ends} (h : WantS I B F ((gd c).s f) D) : c = true ∧ WantS I B F (f ()) D := by
  cases c with
  | true => exact ⟨rfl, h⟩
  | false => exact h.elim
theorem WantS.ofO {α : Type} {o : Option α} {f : α → RS} {D : Ends} (h : WantS I B F ((ofO o).s f) D) : ∃ a, o = some a ∧ WantS I B F (f a) D := by
  cases o with
  | some a => exact ⟨a, rfl, h⟩
  | none => exact h.elim
theorem WantS.isInt {f : Int → RS} {d : D} {D : Ends} (h : WantS I B F ((isInt d).s f) D) : ∃ a, d = .int a ∧ WantS I B F (f a) D := by
  cases d <;> first | exact ⟨_, rfl, h⟩ | exact h.elim
theorem WantS.ownL {i : Nat} {f : List D → RS} {D : Ends} (h : WantS I B F ((ownL env i).s f) D) : ∃ xs, env[i]? = some (some (.lst true xs)) ∧ WantS I B F (f xs) D := by
  cases e : TI.ownL env i with
  | ok xs => rw [e] at h; exact ⟨xs, ownL_ok e, h⟩
  | exc x => exact absurd e ownL_nx
  | fail => rw [e] at h; exact h.elim
theorem WantS.asOwn {f : List TI.D → RS} {d : TI.D} {D : Ends} (h : WantS I B F ((asOwn d).s f) D) : ∃ xs, d = .lst true xs ∧ WantS I B F (f xs) D := by
  cases d with
  | lst o xs => cases o with
    | true => exact ⟨xs, rfl, h⟩
    | false => exact h.elim
  | _ => exact h.elim
theorem WantS.getv {i : Nat} {f : TI.D → RS} {D : Ends} (h : WantS I B F ((getv env i).s f) D) : ∃ d, env[i]? = some (some d) ∧ WantS I B F (f d) D := by
  cases e : TI.getv env i with
  | ok d => rw [e] at h; exact ⟨d, getv_ok e, h⟩
  | exc x => exact absurd e getv_nx
  | fail => rw [e] at h; exact h.elim

def StOk (I : Info) (st : Stmt) (ev : Env → RS) : Prop :=
  ∃ t : TS, (∀ X, SOk I X → PS X st t) ∧ ∀ B F ω H σ env D, Sta I.K B F ω H σ env [] → WantS I B F (ev env) D → t D σ H
def StsOk (I : Info) (st : List Stmt) (ev : Env → RS) : Prop :=
  ∃ t : TS, (∀ X, SOk I X → PSs X st t) ∧ ∀ B F ω H σ env D, Sta I.K B F ω H σ env [] → WantS I B F (ev env) D → t D σ H

/-- an expression at the head of a statement -/
theorem SE.go {m : M} {t : TE} {ev : Env → R TI.D} {f : TI.D → RS} {D : Ends} {Q : VK} (h : SE I m t ev) (S : Sta I.K B F ω H σ env []) (W : WantS I B F ((ev env).s f) D)
    (k : ∀ d v F' ω' H', WantS I B F (f d) D → Res I.K m B F' ω' H' σ env [] v d → Grow F ω H F' ω' H' → Q v H') : t σ H Q := by
  refine h B F ω H σ env [] Q S (W.of.mono (fun d W1 v F' ω' H' R g => k d v F' ω' H' W1 R g) fun x hx => ?_)
  exact fun F' ω' H' S' g => hx F' ω' H' σ env S' g.ex
/-- the quiet expression in the midst of a statement -/
theorem SE.go2 {F1 H1 : Hp} {ω1 : Om} {m : M} {t : TE} {ev : Env → R TI.D} {f : TI.D → RS} {D : Ends} {Q : VK} (h : SE I m t ev) (S : Sta I.K B F1 ω1 H1 σ env []) (e : Ex F F1) (W : WantS I B F ((ev env).s f) D)
    (k : ∀ d v F' ω' H', WantS I B F (f d) D → Res I.K m B F' ω' H' σ env [] v d → Grow F1 ω1 H1 F' ω' H' → Q v H') : t σ H1 Q := by
  refine h B F1 ω1 H1 σ env [] Q S (W.of.mono (fun d W1 v F' ω' H' R g => k d v F' ω' H' W1 R g) fun x hx => ?_)
  exact fun F' ω' H' S' g => hx F' ω' H' σ env S' (e.trans g.ex)
theorem st_nil : StsOk I [] (fun env => .nx env) :=
  ⟨tNext, fun X hX => pss_nil, fun B F ω H σ env D S W => W _ _ _ _ S (Evl.Ex.refl F)⟩
theorem st_cons {s : Stmt} {ss : List Stmt} {ev evr : Env → RS} (h : StOk I s ev) (hr : StsOk I ss evr) : StsOk I (s :: ss) (fun env => (ev env).thn fun env1 => evr env1) := by
  obtain ⟨t, h1, h2⟩ := h
  obtain ⟨u, g1, g2⟩ := hr
  refine ⟨tSeq t u, fun X hX => pss_cons (h1 X hX) (g1 X hX), fun B F ω H σ env D S W => ?_⟩
  refine h2 B F ω H σ env _ S ?_
  have W : WantS I B F ((ev env).thn fun env1 => evr env1) D := W
  cases e : ev env with
  | nx env1 =>
    rw [e] at W
    exact fun F1 ω1 H1 σ1 S1 e1 => g2 B F1 ω1 H1 σ1 env1 D S1 (WantS.ext e1 W)
  | rt d env1 => rw [e] at W; exact W
  | ex x => rw [e] at W; exact W
  | fail => rw [e] at W; exact W
/-- a ghost ahead of a block -/
theorem st_frz {i : Nat} {ss : List Stmt} {evr : Env → RS} (hr : StsOk I ss evr) : StsOk I ss (fun env => ((getv env i).s fun d => .nx (env.set i (some (fz d)))).thn fun env1 => evr env1) := by
  obtain ⟨u, g1, g2⟩ := hr
  refine ⟨u, g1, fun B F ω H σ env D S W => ?_⟩
  have W : WantS I B F (((getv env i).s fun d => .nx (env.set i (some (fz d)))).thn fun env1 => evr env1) D := W
  cases e : TI.getv env i with
  | ok d =>
    rw [e] at W
    obtain ⟨F1, ω1, S1, e1⟩ := S.frzSlot (getv_ok e)
    exact g2 B F1 ω1 H σ _ D S1 (WantS.ext e1 W)
  | exc x => exact absurd e getv_nx
  | fail => rw [e] at W; exact W.elim
theorem st_bad {s : Stmt} : StOk I s (fun _ => .fail) := ⟨tNever, fun X hX => ps_never, fun B F ω H σ env D S W => W.elim⟩
theorem st_badn {ss : List Stmt} : StsOk I ss (fun _ => .fail) := ⟨tNever, fun X hX => pss_never, fun B F ω H σ env D S W => W.elim⟩

theorem Sta.store' {i : Nat} (S : Sta K B F ω H σ env [(v, d)]) : ∃ ω', Sta K B F ω' H (σ.set i (some v)) (env.set i (some d)) [] := by
  by_cases hi : i < σ.length
  · exact S.store hi
  · obtain ⟨ω', S'⟩ := Sta.pop (T := []) S
    rw [List.set_eq_of_length_le (by omega), List.set_eq_of_length_le (by rw [S.len]; omega)]
    exact ⟨ω', S'.1⟩
theorem Res.store {i : Nat} (r : Res K m B F ω H σ env [] v d) (hm : m ≠ .b) : ∃ ω', Sta K B F ω' H (σ.set i (some v)) (env.set i (some d)) [] := by
  cases m with
  | f => exact (r.1.push r.2).store'
  | o => exact Sta.store' r
  | b => exact absurd rfl hm
theorem bindM_nx : ∀ {is : List Nat} {ds : List TI.D} {env : Env} {x : Exn}, bindT.bindM is ds env ≠ .exc x
  | [], [], _, _ => fun h => by cases h
  | [], _ :: _, _, _ => fun h => by cases h
  | _ :: _, [], _, _ => fun h => by cases h
  | i :: is, d :: ds, env, x => fun h => bindM_nx (is := is) (ds := ds) h
theorem bindT_nx {ct : CT} {d : TI.D} {x : Exn} : bindT ct d env ≠ .exc x := by
  intro h
  cases ct with
  | one i => cases h
  | many is => cases d <;> first | exact bindM_nx h | cases h
def notComp : Expr → Bool
  | .ListComp .. => false
  | .SetComp .. => false
  | .DictComp .. => false
  | _ => true
theorem noSwap {e : Expr} (h : notComp e = true) {tg : Option Expr} {l : Nat} {env : PySem.Env} : swapsWith e tg l env = pure false := by
  cases e <;> first | rfl | (simp [notComp] at h)
theorem s_set {i : Nat} {x : Str} {e : Expr} {pos pos' : Pos} {ev : Env → R TI.D} (hI : IOk I) (hm : m ≠ .b) (hN : I.N[i]? = some x) (hl : I.loc x = true) (he : EOk I m e ev)
    (hsw : ∀ X, SOk I X → swapsWith e (some (.Name x pos')) pos.line X.env = pure false) : StOk I (.Assign [.Name x pos'] e pos) (fun env => (ev env).s fun d => .nx (env.set i (some d))) := by
  obtain ⟨t, h1, h2⟩ := he.se
  refine ⟨tAsg t (gName i), fun X hX => ?_, fun B F ω H σ env D S W => ?_⟩
  · obtain ⟨l1, l2⟩ := hX.loc x hl
    exact ps_set (by rw [hX.N]; exact hI.nd) (by rw [hX.N]; exact hN) l1 (h1 X hX.toXOk) (hsw X hX) l2
  · refine h2.go S W fun d v F' ω' H' W1 R g => ?_
    obtain ⟨ω2, S2⟩ := R.store (i := i) hm
    exact W1 F' ω2 H' _ S2 g.ex
theorem s_unp {is : List Nat} {es : List Expr} {j : Nat} {e : Expr} {pos tpos : Pos} {ev : Env → R TI.D} (hg : GOk I (.Tuple es j tpos) (.many is)) (he : EOk I .f e ev) (hn : notComp e = true) (ht : ∀ a b c, e ≠ .Tuple a b c) :
    StOk I (.Assign [.Tuple es j tpos] e pos) (fun env => (ev env).s fun d => (bindT (.many is) d env).s .nx) := by
  obtain ⟨t, h1, h2⟩ := he.se
  obtain ⟨g, g1, g2⟩ := hg
  refine ⟨tAsg t g, fun X hX => ?_, fun B F ω H σ env D S W => ?_⟩
  · exact ps_asg (h1 X hX.toXOk) (g1 X hX.toXOk) (by rw [swapsWithSole]; exact noSwap hn) (by cases e <;> first | rfl | exact absurd rfl (ht _ _ _)) rfl
  · refine h2.go S W fun d v F' ω' H' W1 R g => ?_
    cases e1 : bindT (.many is) d env with
    | ok env1 =>
      rw [e1] at W1
      exact g2 B F' ω' H' σ env [] d v env1 _ R.1 R.2 e1 fun σ1 S1 _ => W1 F' ω' H' σ1 S1 g.ex
    | exc x => exact absurd e1 bindT_nx
    | fail => rw [e1] at W1; exact W1.elim
end TI
set_option Elab.async false
set_option linter.all false
set_option maxRecDepth 10000
/-! TI12: statements that change a list in place; branches, loops, returns. -/
namespace TI
open PySem PySem.Spec PyProof.Rows L2
variable {K : PySem.W.Frag} {B : Base} {F F' H H' : Hp} {ω ω' : Om} {σ σ' : L2.St} {env env' : Env} {T T' : List (V × D)} {d : D} {v : V} {I : Info} {m : M} {p : Addr}

/-- children move with their nodes; the parent's own cell may be another -/
theorem snoc_ne {q r : List Nat} {k : Nat} : q ++ [k] ++ r ≠ q := fun h => by
  have := congrArg List.length h
  simp at this
theorem Owns.upd {t : Tag} {xs : List D} {vs : List V} {path : List Nat} {o : HO} {j : Nat} (hω : ω p = some (t, path)) (h : Owns K F H ω t xs path j vs) : Owns K F (upd H p o) ω t xs path j vs :=
  h.moveC (Evl.Ex.refl F) fun a k q ha => ⟨ha, by
    rw [upd_ne]
    intro e; subst e
    rw [hω] at ha
    simp only [Option.some.injEq, Prod.mk.injEq] at ha
    exact snoc_ne ha.2.symm⟩
/-- one child is another one -/
theorem Owns.setC {t : Tag} (e : Ex F F') : ∀ {xs : List D} {vs : List V} {path : List Nat} {i j : Nat} {x : D} {v : V}, (∀ a k q, k ≠ i + j → ω a = some (t, path ++ [k] ++ q) → ω' a = some (t, path ++ [k] ++ q) ∧ H' a = H a) →
    Own K F' H' ω' t x (path ++ [i + j]) v → Owns K F H ω t xs path j vs → Owns K F' H' ω' t (xs.set i x) path j (vs.set i v)
  | [], _, _, _, _, _, _, _, _, h => by rw [Owns] at h; subst h; rw [List.set_nil, Owns]; rfl
  | y :: xs, _, path, 0, j, x, v, k, hx, h => by
    rw [Owns] at h
    obtain ⟨u, vr, rfl, h1, h2⟩ := h
    rw [List.set_cons_zero, List.set_cons_zero, Owns]
    refine ⟨v, vr, rfl, by rw [Nat.zero_add] at hx; exact hx, ?_⟩
    exact Owns.moveS e (fun a k' q hk ha => k a k' q (by omega) ha) h2
  | y :: xs, _, path, i + 1, j, x, v, k, hx, h => by
    rw [Owns] at h
    obtain ⟨u, vr, rfl, h1, h2⟩ := h
    rw [List.set_cons_succ, List.set_cons_succ, Owns]
    refine ⟨u, vr.set i v, rfl, h1.move e fun a q ha => k a j q (by omega) ha, ?_⟩
    refine Owns.setC e (fun a k' q hk ha => k a k' q (by omega) ha) ?_ h2
    rw [show i + (j + 1) = i + 1 + j by omega]; exact hx
where
  Owns.moveS {t : Tag} (e : Ex F F') : ∀ {xs : List D} {vs : List V} {path : List Nat} {j : Nat}, (∀ a k q, j ≤ k → ω a = some (t, path ++ [k] ++ q) → ω' a = some (t, path ++ [k] ++ q) ∧ H' a = H a) → Owns K F H ω t xs path j vs → Owns K F' H' ω' t xs path j vs
    | [], _, _, _, _, h => h
    | x :: xs, _, path, j, k, h => by
      rw [Owns] at h ⊢
      obtain ⟨v, vr, rfl, h1, h2⟩ := h
      exact ⟨v, vr, rfl, h1.move e (fun a q ha => k a j q (Nat.le_refl _) ha), Owns.moveS e (fun a k' q hk ha => k a k' q (by omega) ha) h2⟩
theorem own_lst {t : Tag} {xs : List D} {path : List Nat} (h : Own K F H ω t (.lst true xs) path v) : ∃ p vs, v = .ref p ∧ H p = some (.lst vs) ∧ ω p = some (t, path) ∧ Owns K F H ω t xs path 0 vs := by
  rw [Own] at h; exact h
/-- the list in a slot is written: its items told anew -/
theorem Sta.wrL {i : Nat} {xs xs' : List D} {vs' : List V} (S : Sta K B F ω H σ env T) (he : env[i]? = some (some (.lst true xs))) (hσ : σ[i]? = some (some (.ref p))) (hω : ω p = some ((0, i), []))
    (h : Owns K F (upd H p (.lst vs')) ω (0, i) xs' [] 0 vs') : Sta K B F ω (upd H p (.lst vs')) σ (env.set i (some (.lst true xs'))) T := by
  refine S.write (T' := T) hω (by simp) (Nat.le_refl _) (fun j d hj => ?_) fun j v d hj => .inl ⟨by simp, hj⟩
  by_cases e : i = j
  · subst e
    have hle : i < env.length := (List.getElem?_eq_some_iff.mp he).1
    rw [List.getElem?_set_self hle] at hj
    obtain rfl : D.lst true xs' = d := by simpa using hj
    exact .inr ⟨rfl, _, hσ, by rw [Own]; exact ⟨p, vs', rfl, upd_same, hω, h⟩⟩
  · rw [List.getElem?_set_ne e] at hj
    exact .inl ⟨by simp; exact fun z => e z.symm, hj⟩
theorem owns_snoc {t : Tag} {xs : List D} {vs : List V} {path : List Nat} (h : Owns K F H ω t xs path 0 vs) (r : Rep K F d v) : Owns K F H ω t (xs ++ [d]) path 0 (vs ++ [v]) :=
  owns_append h (Reps.owns (reps_one r))

theorem m_list {X : Cx} {name : Str} {id : String} {r : V → List V → Hp → VK → Prop} {o e : Expr} {to te : TE} {apos cpos : Pos} (slot : Slot "list" name id) (hty : typeOf (.builtin id) = pure (.type "method_descriptor")) (hm : MtR X id r)
    (ho : PE X o to) (ha : PE X e te) (hn : notStar e = true) (hb : attributeBase o name X.env (eval o X.env) = eval o X.env) (hl : (apos.endLine == cpos.line) = true) :
    PE X (.Call (.Attribute o name apos) [e] [] cpos) (tBM X.K "list" r to (tCons te tNil)) := by
  refine pe_bm PySem.F.plainAttrs_list slot hty hm ho (pa_cons ha pa_nil (star_cons hn)) hb ?_ hl (star_cons hn) (by rfl)
  rw [star_cons hn]; rfl
theorem tyL {H : Hp} {p : Addr} {vs : List V} (h : H p = some (.lst vs)) : tyV K "list" (.ref p) H := .inl ⟨rfl, vs, SqL.of h⟩

theorem s_app {i : Nat} {x : Str} {e : Expr} {npos apos cpos pos : Pos} {ev : Env → R TI.D} (hN : I.N[i]? = some x) (hv : visB I.sc x = true) (hd : (x == sDbg) = false) (hcd : (x == sCd) = false) (hl : (apos.endLine == cpos.line) = true)
    (he : EOk I .f e ev) (hn : notStar e = true) :
    StOk I (.Expr (.Call (.Attribute (.Name x npos) "append" apos) [e] [] cpos) pos) (fun env => (ownL env i).s fun xs => (ev env).s fun d => (gd (decide (xs.length < lim))).s fun _ => .nx (env.set i (some (.lst true (xs ++ [d]))))) := by
  obtain ⟨t, h1, h2⟩ := he.se
  refine ⟨tDrop (tBM I.K "list" rAppend (tVar i) (tCons t tNil)), fun X hX => ?_, fun B F ω H σ env D S W => ?_⟩
  · refine ps_expr ?_ rfl
    rw [← hX.K]
    exact m_list PySem.F.slot_list_append PySem.F.type_list_append mt_append (pe_var (by rw [hX.N]; exact hN) (by rw [hX.sc]; exact visB_ok hv) hd hcd) (h1 X hX.toXOk) hn rfl hl
  · obtain ⟨xs, he, W1⟩ := WantS.ownL W
    obtain ⟨v, hσ, ho⟩ := S.slot i _ he
    obtain ⟨p, vs, rfl, hH, hω, hO⟩ := own_lst ho
    refine ⟨_, hσ, tyL hH, ?_⟩
    refine h2.go S W1 fun d y F1 ω1 H1 W2 R g => ?_
    obtain ⟨S1, r1⟩ := R
    obtain ⟨k, W3⟩ := W2.gd
    have k := of_decide_eq_true k
    obtain ⟨c1, c2⟩ := g.cell p _ hω
    have hO1 := hO.grow g
    refine ⟨p, vs, y, rfl, rfl, by rw [c2]; exact hH, by rw [owns_len hO]; exact Nat.lt_of_lt_of_le k (by decide), ?_⟩
    exact W3 F1 ω1 _ σ (S1.wrL he hσ c1 (owns_snoc (hO1.upd c1) r1)) g.ex
theorem s_ext {i : Nat} {x : Str} {e : Expr} {npos apos cpos pos : Pos} {ev : Env → R TI.D} (hN : I.N[i]? = some x) (hv : visB I.sc x = true) (hd : (x == sDbg) = false) (hcd : (x == sCd) = false) (hl : (apos.endLine == cpos.line) = true)
    (he : EOk I .f e ev) (hn : notStar e = true) :
    StOk I (.Expr (.Call (.Attribute (.Name x npos) "extend" apos) [e] [] cpos) pos) (fun env => (ownL env i).s fun xs => (ev env).s fun d => (asLst d).s fun ys => (gd (decide (xs.length + ys.length ≤ lim))).s fun _ => .nx (env.set i (some (.lst true (xs ++ ys))))) := by
  obtain ⟨t, h1, h2⟩ := he.se
  refine ⟨tDrop (tBM I.K "list" rExtend (tVar i) (tCons t tNil)), fun X hX => ?_, fun B F ω H σ env D S W => ?_⟩
  · refine ps_expr ?_ rfl
    rw [← hX.K]
    exact m_list PySem.F.slot_list_extend PySem.F.type_list_extend mt_extend (pe_var (by rw [hX.N]; exact hN) (by rw [hX.sc]; exact visB_ok hv) hd hcd) (h1 X hX.toXOk) hn rfl hl
  · obtain ⟨xs, he, W1⟩ := WantS.ownL W
    obtain ⟨v, hσ, ho⟩ := S.slot i _ he
    obtain ⟨p, vs, rfl, hH, hω, hO⟩ := own_lst ho
    refine ⟨_, hσ, tyL hH, ?_⟩
    refine h2.go S W1 fun d y F1 ω1 H1 W2 R g => ?_
    obtain ⟨S1, r1⟩ := R
    cases d with
    | lst o ys =>
      obtain ⟨k, W3⟩ := WantS.gd W2
      have k := of_decide_eq_true k
      obtain ⟨c1, c2⟩ := g.cell p _ hω
      have hO1 := hO.grow g
      obtain ⟨q, us, rfl, e1, r2⟩ := rep_lst S1 r1
      refine ⟨p, q, vs, us, rfl, rfl, by rw [c2]; exact hH, e1, by rw [owns_len hO, reps_len r2]; exact lim_line k, ?_⟩
      exact W3 F1 ω1 _ σ (S1.wrL he hσ c1 (owns_append (hO1.upd c1) (Reps.owns r2))) g.ex
    | _ => exact W2.elim
theorem s_setIx {i : Nat} {x : Str} {kx e : Expr} {npos pos pos' : Pos} {ev evk : Env → R TI.D} (hN : I.N[i]? = some x) (hv : visB I.sc x = true) (hd : (x == sDbg) = false) (hcd : (x == sCd) = false)
    (he : EOk I .f e ev) (hk : EOk I .f kx evk) (hn : notSlice kx = true) (hsw : ∀ tg l env, swapsWith e (some (.Subscript (.Name x npos) kx tg)) l env = pure false) :
    StOk I (.Assign [.Subscript (.Name x npos) kx pos'] e pos) (fun env => (ev env).s fun d => (ownL env i).s fun xs => (evk env).s fun y => (isInt y).s fun z => (ofO (ixN xs.length z)).s fun j => .nx (env.set i (some (.lst true (xs.set j d))))) := by
  obtain ⟨t, h1, h2⟩ := he.se
  obtain ⟨u, g1, g2⟩ := hk.se
  refine ⟨tAsg t (gSub (tVar i) u rSetL), fun X hX => ?_, fun B F ω H σ env D S W => ?_⟩
  · refine ps_asg (h1 X hX.toXOk) (pg_sub (pe_var (by rw [hX.N]; exact hN) (by rw [hX.sc]; exact visB_ok hv) hd hcd) (g1 X hX.toXOk) set_list ?_) (by rw [swapsWithSole]; exact hsw _ _ _) rfl rfl
    intro v
    cases kx <;> first | rfl | (simp [notSlice] at hn)
  · refine h2.go S W fun d y F1 ω1 H1 W1 R g => ?_
    obtain ⟨S1, r1⟩ := R
    obtain ⟨xs, he, W2⟩ := WantS.ownL W1
    obtain ⟨v, hσ, ho⟩ := S1.slot i _ he
    obtain ⟨p, vs, rfl, hH, hω, hO⟩ := own_lst ho
    refine ⟨_, hσ, ?_⟩
    refine g2.go2 S1 g.ex W2 fun k kv F2 ω2 H2 W3 R2 q2 => ?_
    obtain ⟨S2, r2⟩ := R2
    obtain ⟨z, rfl, W4⟩ := W3.isInt
    cases r2
    obtain ⟨j, hj, W5⟩ := W4.ofO
    obtain ⟨c1, c2⟩ := q2.cell p _ hω
    have hO1 := hO.grow q2
    refine ⟨p, vs, z, j, rfl, rfl, by rw [c2]; exact hH, by rw [owns_len hO]; exact hj, ?_⟩
    refine W5 F2 ω2 _ σ (S2.wrL he hσ c1 ?_) (g.ex.trans q2.ex)
    refine Owns.setC (i := j) (Evl.Ex.refl F2) (fun a k q _ ha => ⟨ha, ?_⟩) ((r1.mono q2.ex).own) hO1
    rw [upd_ne]
    intro e2; subst e2
    rw [c1] at ha
    simp only [Option.some.injEq, Prod.mk.injEq] at ha
    exact snoc_ne ha.2.symm
theorem tag_ne {t : Tag} {q r : List Nat} {a : Addr} {k : Nat} (h1 : ω p = some (t, q)) (h2 : ω a = some (t, q ++ [k] ++ r)) : a ≠ p := by
  intro e; subst e
  rw [h1] at h2
  simp only [Option.some.injEq, Prod.mk.injEq] at h2
  exact snoc_ne h2.2.symm
/-- a child list is written: its items told anew -/
theorem Owns.wrC {t : Tag} {xs ys' : List D} {vs us' : List V} {path : List Nat} {j : Nat} {q : Addr} (h : Owns K F H ω t xs path 0 vs) (hq : vs[j]? = some (.ref q)) (hω : ω q = some (t, path ++ [j]))
    (hy : Owns K F (L2.upd H q (.lst us')) ω t ys' (path ++ [j]) 0 us') : Owns K F (L2.upd H q (.lst us')) ω t (xs.set j (.lst true ys')) path 0 vs := by
  have e : vs = vs.set j (.ref q) := by
    apply List.ext_getElem?
    intro k
    rw [List.getElem?_set]
    by_cases z : j = k
    · subst z
      rw [if_pos rfl, if_pos (List.getElem?_eq_some_iff.mp hq).1, hq]
    · rw [if_neg z]
  rw [e]
  refine Owns.setC (i := j) (j := 0) (Evl.Ex.refl F) (fun a k r hk ha => ⟨ha, ?_⟩) ?_ h
  · rw [upd_ne]
    intro z; subst z
    rw [hω] at ha
    simp only [Option.some.injEq, Prod.mk.injEq, true_and] at ha
    rw [List.append_assoc] at ha
    have := List.append_cancel_left ha
    simp at this
    omega
  · rw [Own]
    exact ⟨q, us', rfl, upd_same, hω, hy⟩
theorem ixN_lt {n : Nat} {i : Int} {j : Nat} (h : ixN n i = some j) : j < n := (ixN_seq h).2.1

theorem s_appAt {i : Nat} {x : Str} {kx e : Expr} {npos apos spos cpos pos : Pos} {ev evk : Env → R TI.D} (hN : I.N[i]? = some x) (hv : visB I.sc x = true) (hd : (x == sDbg) = false) (hcd : (x == sCd) = false) (hl : (apos.endLine == cpos.line) = true)
    (he : EOk I .f e ev) (hn : notStar e = true) (hk : EOk I .f kx evk) (hns : notSlice kx = true) :
    StOk I (.Expr (.Call (.Attribute (.Subscript (.Name x npos) kx spos) "append" apos) [e] [] cpos) pos) (fun env => (ownL env i).s fun xs => (evk env).s fun y => (isInt y).s fun z => (ofO (ixN xs.length z)).s fun j => (ofO xs[j]?).s fun c => (asOwn c).s fun ys =>
      (ev env).s fun d => (gd (decide (ys.length < lim))).s fun _ => .nx (env.set i (some (.lst true (xs.set j (.lst true (ys ++ [d]))))))) := by
  obtain ⟨t, h1, h2⟩ := he.se
  obtain ⟨u, g1, g2⟩ := hk.se
  refine ⟨tDrop (tBM I.K "list" rAppend (tOp (rIx I.K) (tVar i) u) (tCons t tNil)), fun X hX => ?_, fun B F ω H σ env D S W => ?_⟩
  · refine ps_expr ?_ rfl
    rw [← hX.K]
    exact m_list PySem.F.slot_list_append PySem.F.type_list_append mt_append (pe_ix ix_seq (pe_var (by rw [hX.N]; exact hN) (by rw [hX.sc]; exact visB_ok hv) hd hcd) (g1 X hX.toXOk) (plainIx hns)) (h1 X hX.toXOk) hn rfl hl
  · obtain ⟨xs, he, W1⟩ := WantS.ownL W
    obtain ⟨v, hσ, ho⟩ := S.slot i _ he
    obtain ⟨p, vs, rfl, hH, hω, hO⟩ := own_lst ho
    refine ⟨_, hσ, ?_⟩
    refine g2.go S W1 fun k kv F1 ω1 H1 W2 R g => ?_
    obtain ⟨S1, r1⟩ := R
    obtain ⟨z, rfl, W3⟩ := W2.isInt
    cases r1
    obtain ⟨j, hj, W4⟩ := W3.ofO
    obtain ⟨c, hc, W5⟩ := W4.ofO
    obtain ⟨ys, rfl, W6⟩ := W5.asOwn
    obtain ⟨c1, c2⟩ := g.cell p _ hω
    have hO1 := hO.grow g
    obtain ⟨w, hw, hC⟩ := hO1.get hc
    obtain ⟨q, us, rfl, hq1, hq2, hq3⟩ := own_lst hC
    refine .inl ⟨p, vs, z, _, rfl, rfl, SqL.of (by rw [c2]; exact hH), atI_of (owns_len hO) hj hw, tyL hq1, ?_⟩
    refine h2.go2 S1 g.ex W6 fun d y F2 ω2 H2 W7 R2 g' => ?_
    obtain ⟨S2, r2⟩ := R2
    obtain ⟨k, W8⟩ := W7.gd
    have k := of_decide_eq_true k
    obtain ⟨b1, b2⟩ := g'.cell q _ hq2
    obtain ⟨a1, a2⟩ := g'.cell p _ c1
    have hO2 := hO1.grow g'
    have hq4 := hq3.grow g'
    refine ⟨q, us, y, rfl, rfl, by rw [b2]; exact hq1, by rw [owns_len hq3]; exact Nat.lt_of_lt_of_le k (by decide), ?_⟩
    refine W8 F2 ω2 _ σ ?_ (g.ex.trans g'.ex)
    have b1' : ω2 q = some ((0, i), [] ++ [j]) := by rw [b1]; simp
    have hpq : p ≠ q := by
      intro e; subst e
      rw [a1] at b1'
      simp at b1'
    refine S2.write (T' := []) b1' (by simp) (Nat.le_refl _) (fun l d' hl' => ?_) fun l v d hj => by simp at hj
    by_cases e : i = l
    · subst e
      have hle : i < env.length := (List.getElem?_eq_some_iff.mp he).1
      rw [List.getElem?_set_self hle] at hl'
      obtain rfl : TI.D.lst true (xs.set j (.lst true (ys ++ [d]))) = d' := by simpa using hl'
      refine .inr ⟨rfl, _, hσ, ?_⟩
      rw [Own]
      refine ⟨p, vs, rfl, by rw [upd_ne hpq, a2, c2]; exact hH, a1, ?_⟩
      refine hO2.wrC hw b1' (owns_snoc (Owns.upd b1' ?_) r2)
      simpa using hq4
    · rw [List.getElem?_set_ne e] at hl'
      exact .inl ⟨by simp; exact fun z => e z.symm, hl'⟩
theorem s_setIx2 {i : Nat} {x : Str} {jx kx e : Expr} {npos spos pos pos' : Pos} {ev evj evk : Env → R TI.D} (hN : I.N[i]? = some x) (hv : visB I.sc x = true) (hd : (x == sDbg) = false) (hcd : (x == sCd) = false)
    (he : EOk I .f e ev) (hj : EOk I .f jx evj) (hk : EOk I .f kx evk) (hnj : notSlice jx = true) (hnk : notSlice kx = true) (hsw : ∀ o tg l env, swapsWith e (some (.Subscript o kx tg)) l env = pure false) :
    StOk I (.Assign [.Subscript (.Subscript (.Name x npos) jx spos) kx pos'] e pos) (fun env => (ev env).s fun d => (ownL env i).s fun xs => (evj env).s fun y => (isInt y).s fun z => (ofO (ixN xs.length z)).s fun q => (ofO xs[q]?).s fun c => (asOwn c).s fun ys =>
      (evk env).s fun y2 => (isInt y2).s fun z2 => (ofO (ixN ys.length z2)).s fun q2 => .nx (env.set i (some (.lst true (xs.set q (.lst true (ys.set q2 d))))))) := by
  obtain ⟨t, h1, h2⟩ := he.se
  obtain ⟨u, g1, g2⟩ := hj.se
  obtain ⟨w, k1, k2⟩ := hk.se
  refine ⟨tAsg t (gSub (tOp (rIx I.K) (tVar i) u) w rSetL), fun X hX => ?_, fun B F ω H σ env D S W => ?_⟩
  · rw [← hX.K]
    refine ps_asg (h1 X hX.toXOk) (pg_sub (pe_ix ix_seq (pe_var (by rw [hX.N]; exact hN) (by rw [hX.sc]; exact visB_ok hv) hd hcd) (g1 X hX.toXOk) (plainIx hnj)) (k1 X hX.toXOk) set_list ?_) (by rw [swapsWithSole]; exact hsw _ _ _ _) rfl rfl
    intro v
    cases kx <;> first | rfl | (simp [notSlice] at hnk)
  · refine h2.go S W fun d y F1 ω1 H1 W1 R g => ?_
    obtain ⟨S1, r1⟩ := R
    obtain ⟨xs, he, W2⟩ := WantS.ownL W1
    obtain ⟨v, hσ, ho⟩ := S1.slot i _ he
    obtain ⟨p, vs, rfl, hH, hω, hO⟩ := own_lst ho
    refine ⟨_, hσ, ?_⟩
    refine g2.go2 S1 g.ex W2 fun k kv F2 ω2 H2 W3 R2 q2 => ?_
    obtain ⟨S2, r2⟩ := R2
    obtain ⟨z, rfl, W4⟩ := W3.isInt
    cases r2
    obtain ⟨j, hj, W5⟩ := W4.ofO
    obtain ⟨c, hc, W6⟩ := W5.ofO
    obtain ⟨ys, rfl, W7⟩ := W6.asOwn
    obtain ⟨c1, c2⟩ := q2.cell p _ hω
    have hO1 := hO.grow q2
    obtain ⟨w', hw, hC⟩ := hO1.get hc
    obtain ⟨q, us, rfl, hq1, hq2, hq3⟩ := own_lst hC
    refine .inl ⟨p, vs, z, _, rfl, rfl, SqL.of (by rw [c2]; exact hH), atI_of (owns_len hO) hj hw, ?_⟩
    refine k2.go2 S2 (g.ex.trans q2.ex) W7 fun k2 kv2 F3 ω3 H3 W8 R3 q3 => ?_
    obtain ⟨S3, r3⟩ := R3
    obtain ⟨z2, rfl, W9⟩ := W8.isInt
    cases r3
    obtain ⟨j2, hj2, W10⟩ := W9.ofO
    obtain ⟨b1, b2⟩ := q3.cell q _ hq2
    obtain ⟨a1, a2⟩ := q3.cell p _ c1
    have hO2 := hO1.grow q3
    have hq4 := hq3.grow q3
    refine ⟨q, us, z2, j2, rfl, rfl, by rw [b2]; exact hq1, by rw [owns_len hq3]; exact hj2, ?_⟩
    refine W10 F3 ω3 _ σ ?_ ((g.ex.trans q2.ex).trans q3.ex)
    have b1' : ω3 q = some ((0, i), [] ++ [j]) := by rw [b1]; simp
    have hpq : p ≠ q := by
      intro e; subst e
      rw [a1] at b1'
      simp at b1'
    refine S3.write (T' := []) b1' (by simp) (Nat.le_refl _) (fun l d' hl' => ?_) fun l v d hj => by simp at hj
    by_cases e : i = l
    · subst e
      have hle : i < env.length := (List.getElem?_eq_some_iff.mp he).1
      rw [List.getElem?_set_self hle] at hl'
      obtain rfl : TI.D.lst true (xs.set j (.lst true (ys.set j2 d))) = d' := by simpa using hl'
      refine .inr ⟨rfl, _, hσ, ?_⟩
      rw [Own]
      refine ⟨p, vs, rfl, by rw [upd_ne hpq, a2, c2]; exact hH, a1, ?_⟩
      refine hO2.wrC hw b1' ?_
      have hq5 : Owns I.K F3 H3 ω3 (0, i) ys ([] ++ [j]) 0 us := by simpa using hq4
      refine Owns.setC (i := j2) (j := 0) (Evl.Ex.refl F3) (fun a k r _ ha => ⟨ha, ?_⟩) (((r1.mono q2.ex).mono q3.ex).own) hq5
      rw [upd_ne (tag_ne b1' ha)]
    · rw [List.getElem?_set_ne e] at hl'
      exact .inl ⟨by simp; exact fun z => e z.symm, hl'⟩
end TI
set_option Elab.async false
set_option linter.all false
set_option maxRecDepth 10000
/-! TI13: pop into another list, pairs of stores, branches, loops, returns. -/
namespace TI
open PySem PySem.Spec PyProof.Rows L2
variable {K : PySem.W.Frag} {B : Base} {F F' H H' : Hp} {ω ω' : Om} {σ σ' : L2.St} {env env' : Env} {T T' : List (V × D)} {d : D} {v : V} {I : Info} {m : M} {p : Addr}

theorem Owns.erase : ∀ {xs : List D} {vs : List V} {k : Nat}, Reps K F xs vs → Reps K F (xs.eraseIdx k) (vs.eraseIdx k)
  | [], _, _, h => by rw [Reps] at h; subst h; exact reps_nil
  | x :: xs, _, 0, h => by
    rw [Reps] at h
    obtain ⟨v, vr, rfl, h1, h2⟩ := h
    exact h2
  | x :: xs, _, k + 1, h => by
    rw [Reps] at h
    obtain ⟨v, vr, rfl, h1, h2⟩ := h
    exact reps_cons h1 (Owns.erase h2)
theorem s_appPop {i j : Nat} {x y : Str} {kx : Expr} {n1 n2 apos apos2 cpos cpos2 pos : Pos} {evk : Env → R TI.D} (hN : I.N[i]? = some x) (hv : visB I.sc x = true) (hd : (x == sDbg) = false) (hcd : (x == sCd) = false) (hl : (apos.endLine == cpos.line) = true)
    (hN' : I.N[j]? = some y) (hv' : visB I.sc y = true) (hd' : (y == sDbg) = false) (hcd' : (y == sCd) = false) (hl' : (apos2.endLine == cpos2.line) = true) (hk : EOk I .f kx evk) (hn : notStar kx = true) :
    StOk I (.Expr (.Call (.Attribute (.Name x n1) "append" apos) [.Call (.Attribute (.Name y n2) "pop" apos2) [kx] [] cpos2] [] cpos) pos) (fun env => (ownL env i).s fun xs => (ownL env j).s fun ys => (evk env).s fun y => (isInt y).s fun z => (ofO (ixN ys.length z)).s fun q => (ofO ys[q]?).s fun d =>
      (gd (isFs ys && decide (i ≠ j) && decide (xs.length < lim) && decide (ys.length < lim))).s fun _ => .nx ((env.set j (some (.lst true (ys.eraseIdx q)))).set i (some (.lst true (xs ++ [d]))))) := by
  obtain ⟨u, g1, g2⟩ := hk.se
  refine ⟨tDrop (tBM I.K "list" rAppend (tVar i) (tCons (tBM I.K "list" rPopAt (tVar j) (tCons u tNil)) tNil)), fun X hX => ?_, fun B F ω H σ env D S W => ?_⟩
  · refine ps_expr ?_ rfl
    rw [← hX.K]
    exact m_list PySem.F.slot_list_append PySem.F.type_list_append mt_append (pe_var (by rw [hX.N]; exact hN) (by rw [hX.sc]; exact visB_ok hv) hd hcd)
      (m_list PySem.F.slot_list_pop PySem.F.type_list_pop mt_popAt (pe_var (by rw [hX.N]; exact hN') (by rw [hX.sc]; exact visB_ok hv') hd' hcd') (g1 X hX.toXOk) hn rfl hl') rfl rfl hl
  · obtain ⟨xs, hx, W1⟩ := WantS.ownL W
    obtain ⟨ys, hy, W2⟩ := WantS.ownL W1
    obtain ⟨v, hσ, ho⟩ := S.slot i _ hx
    obtain ⟨v', hσ', ho'⟩ := S.slot j _ hy
    obtain ⟨p, vs, rfl, hH, hω, hO⟩ := own_lst ho
    obtain ⟨q, us, rfl, hH', hω', hO'⟩ := own_lst ho'
    refine ⟨_, hσ, tyL hH, _, hσ', tyL hH', ?_⟩
    refine g2.go S W2 fun k kv F1 ω1 H1 W3 R g => ?_
    obtain ⟨S1, r1⟩ := R
    obtain ⟨z, rfl, W4⟩ := W3.isInt
    cases r1
    obtain ⟨k, hk, W5⟩ := W4.ofO
    obtain ⟨d, hdd, W6⟩ := W5.ofO
    obtain ⟨k2, W7⟩ := W6.gd
    simp only [Bool.and_eq_true, decide_eq_true_eq] at k2
    obtain ⟨⟨⟨f1, f2⟩, f3⟩, f4⟩ := k2
    obtain ⟨c1, c2⟩ := g.cell p _ hω
    obtain ⟨b1, b2⟩ := g.cell q _ hω'
    have hO1 := hO.grow g
    have rY := (hO'.grow g).reps f1
    obtain ⟨w, hw, rw'⟩ := rY.get hdd
    obtain ⟨s1, s2, s3, s4⟩ := ixN_seq hk
    have hpq : p ≠ q := by
      intro e; subst e
      rw [c1] at b1
      simp at b1
      exact f2 b1
    have hl1 := reps_len rY
    refine ⟨q, us, z, k, w, rfl, rfl, by rw [b2]; exact hH', ?_, ?_, by rw [hl1]; exact s1, hw, ?_⟩
    · have : ys.length < lim := f4
      unfold lim at this
      omega
    · have : ys.length < lim := f4
      unfold lim at this
      omega
    · have S2 : Sta I.K B F1 ω1 (upd H1 q (.lst (us.eraseIdx k))) σ (env.set j (some (.lst true (ys.eraseIdx k)))) [] :=
        S1.wrL hy hσ' b1 (Reps.owns (Owns.erase rY))
      refine ⟨p, vs, w, rfl, rfl, by rw [upd_ne hpq, c2]; exact hH, by rw [owns_len hO]; exact Nat.lt_of_lt_of_le f3 (by decide), ?_⟩
      refine W7 F1 ω1 _ σ (S2.wrL (xs := xs) (by rw [List.getElem?_set_ne (Ne.symm f2)]; exact hx) hσ c1 ?_) g.ex
      refine owns_snoc (Owns.upd c1 ?_) rw'
      refine hO1.move (Evl.Ex.refl F1) fun a r ha => ⟨ha, ?_⟩
      rw [upd_ne]
      intro e; subst e
      rw [b1] at ha
      simp at ha
      exact f2 ha.1.symm

/-! ### a, b = x, y -/
def par2B (sc : Scope) (x y : Str) (px py : Pos) (a b : Expr) : Bool :=
  decide (sc.kind = .function) && decide (sc.names.lookup x = some .local) && decide (sc.names.lookup y = some .local) && (px.line == py.line) && decide (x ≠ y) && !([a, b].all (foldedForSure 8)) && !([a, b].all (constantsAlone 8)) && notStar a && notStar b
theorem par2_swaps {env : PySem.Env} {x y : Str} {px py pt : Pos} {kt k2 : Nat} {pt2 : Pos} {a b : Expr} (h : par2B env.scope x y px py a b = true) :
    swappedStores [.Tuple [.Name x px, .Name y py] kt pt] (.Tuple [a, b] k2 pt2) env = pure (some [x, y]) := by
  unfold par2B at h
  simp only [Bool.and_eq_true, decide_eq_true_eq, Bool.not_eq_true', beq_iff_eq] at h
  obtain ⟨⟨⟨⟨⟨⟨⟨⟨h1, h2⟩, h3⟩, h4⟩, h5⟩, h6⟩, h7⟩, h8⟩, h9⟩ := h
  have hb : env.blockKind = .function := by unfold Env.blockKind; rw [h1]; rfl
  have kx : env.kindOf x = some .local := h2
  have ky : env.kindOf y = some .local := h3
  have e4 : [x, y].eraseDups.length = 2 := by
    have : (y == x) = false := by simp [Ne.symm h5]
    simp [List.eraseDups_cons, List.filter, this]
  unfold swappedStores
  simp only [List.length_cons, List.length_nil, hb]
  simp only [h6, h7]
  simp [Expr.pos, kx, ky, h4, e4]
  intro h
  exfalso
  rcases h with h | h
  · cases a <;> first | (simp [notStar] at h8; done) | (simp at h)
  · cases b <;> first | (simp [notStar] at h9; done) | (simp at h)
theorem s_par {i j : Nat} {x y : Str} {a b : Expr} {px py pt pos : Pos} {kt k2 : Nat} {pt2 : Pos} {eva evb : Env → R TI.D} (hI : IOk I) (hN : I.N[i]? = some x) (hN' : I.N[j]? = some y) (hl : I.loc x = true) (hl' : I.loc y = true) (hij : i ≠ j)
    (hp : par2B I.sc x y px py a b = true) (ha : EOk I .f a eva) (hb : EOk I .f b evb) :
    StOk I (.Assign [.Tuple [.Name x px, .Name y py] kt pt] (.Tuple [a, b] k2 pt2) pos) (fun env => (eva env).s fun x => (evb env).s fun y => .nx ((env.set i (some x)).set j (some y))) := by
  obtain ⟨t, h1, h2⟩ := ha.se
  obtain ⟨u, g1, g2⟩ := hb.se
  have hp' := hp
  unfold par2B at hp
  simp only [Bool.and_eq_true, decide_eq_true_eq, Bool.not_eq_true', beq_iff_eq] at hp
  obtain ⟨⟨⟨⟨⟨⟨⟨⟨_, n1⟩, n2⟩, _⟩, _⟩, _⟩, _⟩, h8⟩, h9⟩ := hp
  refine ⟨tPar i j (tCons t (tCons u tNil)), fun X hX => ?_, fun B F ω H σ env D S W => ?_⟩
  · exact ps_par hX.calm (by rw [hX.N]; exact hI.nd) (by rw [hX.N]; exact hN) (by rw [hX.N]; exact hN') hij (by rw [hX.sc]; exact n1) (by rw [hX.sc]; exact n2)
      (pa_cons (h1 X hX.toXOk) (pa_cons (g1 X hX.toXOk) pa_nil (star_cons h9)) (star_cons h8)) (par2_swaps (by rw [hX.sc]; exact hp')) rfl
  · refine h2.go S W fun d v F1 ω1 H1 W1 R g => ?_
    obtain ⟨S1, r1⟩ := R
    refine g2.go2 S1 g.ex W1 fun d2 v2 F2 ω2 H2 W2 R2 q2 => ?_
    obtain ⟨S2, r2⟩ := R2
    exact ⟨v, v2, rfl, W2 F2 ω2 H2 _ ((S2.setFrz (r1.mono q2.ex)).setFrz r2) (g.ex.trans q2.ex)⟩
/-! ### branches, loops, returns -/
theorem TOk.go {t : TT} {c : Env → R Bool} {f : Bool → RS} {D : Ends} {Q : Bool → Hp → Prop} (h : ∀ B F ω H σ env T Q, Sta I.K B F ω H σ env T → Want (c env) (fun c => ∀ F' ω' H', Sta I.K B F' ω' H' σ env T → Grow F ω H F' ω' H' → Q c H') (EXW I B σ env T F ω H) → t σ H Q)
    (S : Sta I.K B F ω H σ env []) (W : WantS I B F ((c env).s f) D) (k : ∀ b F' ω' H', WantS I B F (f b) D → Sta I.K B F' ω' H' σ env [] → Grow F ω H F' ω' H' → Q b H') : t σ H Q := by
  refine h B F ω H σ env [] Q S (W.of.mono (fun b W1 F' ω' H' S' g => k b F' ω' H' W1 S' g) fun x hx => ?_)
  exact fun F' ω' H' S' g => hx F' ω' H' σ env S' g.ex
theorem s_if {c : Expr} {a b : List Stmt} {pos : Pos} {evc : Env → R Bool} {eva evb : Env → RS} (hc : TOk I c evc) (ha : StsOk I a eva) (hb : StsOk I b evb) :
    StOk I (.If c a b pos) (fun env => (evc env).s fun t => if t = true then eva env else evb env) := by
  obtain ⟨t, h1, h2⟩ := hc
  obtain ⟨u, u1, u2⟩ := ha
  obtain ⟨w, w1, w2⟩ := hb
  refine ⟨tIfS t u w, fun X hX => ps_if (h1 X hX.toXOk) (u1 X hX) (w1 X hX), fun B F ω H σ env D S W => ?_⟩
  refine TOk.go h2 S W fun b F1 ω1 H1 W1 S1 g => ?_
  cases b with
  | true =>
    rw [if_pos rfl]
    rw [if_pos rfl] at W1
    exact u2 B F1 ω1 H1 σ env D S1 (W1.ext g.ex)
  | false =>
    have W1 : WantS I B F (evb env) D := W1
    exact w2 B F1 ω1 H1 σ env D S1 (W1.ext g.ex)
theorem Sta.wipeK (S : Sta K B F ω H σ env T) (vs : List Nat) : Sta K B F ω H σ (wipeE env vs) T :=
  S.weak (wipe_len vs) fun i d h => (wipeE_some h).1
theorem Want.okS {r : R (List D)} {ok : List D → Prop} {ex : Exn → Prop} (h : Want r ok ex) : (∃ xs, r = .ok xs) ∨ (∃ x, r = .exc x ∧ ex x) := by
  cases r with
  | ok a => exact .inl ⟨a, rfl⟩
  | exc x => exact .inr ⟨x, rfl, h⟩
  | fail => exact h.elim
theorem s_for {tg iter : Expr} {body : List Stmt} {pos : Pos} {ct : CT} {kl : List Nat} {evi : Env → R (List D)} {evb : Env → RS} (hn : notSet iter = true) (hw : WOk I tg iter evi) (hg : GOk I tg ct) (hb : StsOk I body evb) :
    StOk I (.For tg iter body [] pos) (fun env => (evi env).s fun xs => forL evb ct kl xs env) := by
  obtain ⟨wi, w1, w2⟩ := hw
  obtain ⟨g, g1, g2⟩ := hg
  obtain ⟨t, t1, t2⟩ := hb
  refine ⟨tFor wi g t, fun X hX => ps_for hX.own hX.calm (w1 X hX.toXOk) (g1 X hX.toXOk) (t1 X hX) (foldSet hn), fun B F ω H σ env D S W => ?_⟩
  refine w2 B F ω H σ env [] _ S (W.of.mono (fun xs W1 J F1 ω1 H1 S1 wk gr => ?_) fun x hx => fun F' ω' H' S' g => hx F' ω' H' σ env S' g.ex)
  refine ⟨fun i n σ H => n = xs.length - i ∧ i ≤ xs.length ∧ ∃ env F' ω', Sta I.K B F' ω' H σ env [] ∧ Ex F1 F' ∧ WantS I B F' (forL evb ct kl (xs.drop i) env) D,
    ⟨xs.length, by simp, Nat.zero_le _, env, F1, ω1, S1, Evl.Ex.refl F1, by rw [List.drop_zero]; exact W1.ext gr.ex⟩, ?_⟩
  rintro i n σ2 H2 ⟨rfl, hi, env2, F2, ω2, S2, e2, W2⟩
  by_cases hlt : i < xs.length
  · have hx : xs[i]? = some xs[i] := List.getElem?_eq_getElem hlt
    obtain ⟨go, yl⟩ := wk.go i xs[i] B F2 ω2 H2 σ2 env2 _ hx S2 e2
    rw [List.drop_eq_getElem_cons hlt, forL] at W2
    refine .inr ⟨go, fun σ H => xs.length - (i + 1) = xs.length - (i + 1) ∧ i + 1 ≤ xs.length ∧ ∃ env F' ω', Sta I.K B F' ω' H σ env [] ∧ Ex F1 F' ∧ WantS I B F' (forL evb ct kl (xs.drop (i + 1)) env) D, fun σ' H' h => ⟨_, by omega, h⟩, fun x H3 hy => ?_⟩
    obtain ⟨F3, S3, g3, r3⟩ := yl x H3 hy
    cases e1 : bindT ct xs[i] env2 with
    | fail => rw [e1] at W2; exact W2.elim
    | exc x => exact absurd e1 bindT_nx
    | ok env3 =>
      rw [e1, ok_s] at W2
      refine g2 B F3 ω2 H3 σ2 env2 [] _ x env3 _ S3 r3 e1 fun σ4 S4 _ => ?_
      refine t2 B F3 ω2 H3 σ4 env3 _ S4 ?_
      have W3 := W2.ext g3.ex
      cases e5 : evb env3 with
      | nx env5 =>
        rw [e5, nx_thn] at W3
        intro F5 ω5 H5 σ5 S5 e6
        exact ⟨rfl, by omega, _, F5, ω5, S5.wipeK kl, (e2.trans g3.ex).trans e6, W3.ext e6⟩
      | rt d env5 =>
        rw [e5, rt_thn] at W3
        exact W3
      | ex x => rw [e5] at W3; exact W3
      | fail => rw [e5] at W3; exact W3
  · have ei : i = xs.length := by omega
    subst ei
    rw [List.drop_length] at W2
    exact .inl ⟨wk.stop B F2 ω2 H2 σ2 env2 _ S2 e2, W2 F2 ω2 H2 σ2 S2 (Evl.Ex.refl F2)⟩
theorem s_while {c : Expr} {body : List Stmt} {pos : Pos} {kl : List Nat} {n : Nat} {evc : Env → R Bool} {evb : Env → RS} (hc : TOk I c evc) (hb : StsOk I body evb) :
    StOk I (.While c body [] pos) (fun env => whL evc evb kl n env) := by
  obtain ⟨t, h1, h2⟩ := hc
  obtain ⟨u, u1, u2⟩ := hb
  refine ⟨tWhile t u, fun X hX => ps_while hX.own (h1 X hX.toXOk) (u1 X hX), fun B F ω H σ env D S W => ?_⟩
  refine ⟨fun k σ H => ∃ env F' ω', Sta I.K B F' ω' H σ env [] ∧ WantS I B F' (whL evc evb kl k env) D, ⟨n, env, F, ω, S, W⟩, ?_⟩
  rintro k σ2 H2 ⟨env2, F2, ω2, S2, W2⟩
  cases k with
  | zero => exact W2.elim
  | succ k =>
    rw [whL] at W2
    refine TOk.go h2 S2 W2 fun b F3 ω3 H3 W3 S3 g => ?_
    cases b with
    | false =>
      have W3 : WantS I B F2 (.nx env2) D := W3
      show D.nx σ2 H3
      exact W3 F3 ω3 H3 σ2 S3 g.ex
    | true =>
      rw [if_pos rfl]
      rw [if_pos rfl] at W3
      have W3 := W3.ext g.ex
      refine ⟨fun σ H => ∃ env F' ω', Sta I.K B F' ω' H σ env [] ∧ WantS I B F' (whL evc evb kl k env) D, fun σ' H' h => ⟨k, Nat.lt_succ_self k, h⟩, ?_⟩
      refine u2 B F3 ω3 H3 σ2 env2 _ S3 ?_
      cases e5 : evb env2 with
      | nx env5 =>
        rw [e5, nx_thn] at W3
        intro F5 ω5 H5 σ5 S5 e6
        exact ⟨_, F5, ω5, S5.wipeK kl, W3.ext e6⟩
      | rt d env5 =>
        rw [e5, rt_thn] at W3
        exact W3
      | ex x => rw [e5] at W3; exact W3
      | fail => rw [e5] at W3; exact W3
theorem s_ret {e : Expr} {pos : Pos} {ev : Env → R TI.D} (he : EOk I .o e ev) : StOk I (.Return (some e) pos) (fun env => (ev env).s fun d => .rt d env) := by
  obtain ⟨t, h1, h2⟩ := he.se
  refine ⟨tRet t, fun X hX => ps_ret (h1 X hX.toXOk), fun B F ω H σ env D S W => ?_⟩
  exact h2.go S W fun d v F1 ω1 H1 W1 R g => W1 v F1 ω1 H1 σ R g.ex
/-- a slot's tree is handed on -/
theorem Sta.take {i : Nat} (S : Sta K B F ω H σ env []) (h : env[i]? = some (some d)) : ∃ v ω', σ[i]? = some (some v) ∧ Sta K B F ω' H σ (env.set i none) [(v, d)] := by
  obtain ⟨v, hσ, ho⟩ := S.slot i d h
  let ω1 : Om := fun a => match ω a with
    | some ((0, j), q) => if j = i then some ((1, 0), q) else some ((0, j), q)
    | _ => none
  have fwd : ∀ a s, ω1 a = some s → ∃ s', ω a = some s' := fun a s h => by
    cases e : ω a with
    | none => simp only [ω1, e] at h; cases h
    | some s' => exact ⟨s', rfl⟩
  refine ⟨v, ω1, hσ, ⟨S.ex, fun a s h => ?_, fun a s h => ?_, by simp [S.len], fun j d' hj => ?_, fun j u d' hj => ?_, fun a j q hq => ?_, S.fr, S.pF, fun a s h => ?_, S.keep⟩⟩
  · obtain ⟨s', e⟩ := fwd a s h; exact S.dis a s' e
  · obtain ⟨s', e⟩ := fwd a s h; exact S.trk a s' e
  · by_cases e : i = j
    · subst e
      have hle : i < env.length := (List.getElem?_eq_some_iff.mp h).1
      rw [List.getElem?_set_self hle] at hj
      cases hj
    · rw [List.getElem?_set_ne e] at hj
      obtain ⟨u, h1, h2⟩ := S.slot j d' hj
      exact ⟨u, h1, h2.move (Evl.Ex.refl F) fun a q ha => ⟨by simp only [ω1, ha]; rw [if_neg (Ne.symm e)], rfl⟩⟩
  · cases j with
    | zero =>
      simp at hj
      obtain ⟨rfl, rfl⟩ := hj
      exact ho.move (Evl.Ex.refl F) fun a q ha => ⟨by simp only [ω1, ha]; rw [if_pos trivial], rfl⟩
    | succ j => simp at hj
  · cases e : ω a with
    | none => simp only [ω1, e] at hq; cases hq
    | some s' =>
      obtain ⟨⟨x, y⟩, z⟩ := s'
      have hq : ω1 a = some ((1, j), q) := hq
      simp only [ω1, e] at hq
      split at hq
      · split at hq
        · simp at hq; simp; omega
        · simp at hq
      · cases hq
  · obtain ⟨s', e⟩ := fwd a s h; exact S.pω a s' e
theorem s_retv {i : Nat} {x : Str} {npos pos : Pos} (hN : I.N[i]? = some x) (hv : visB I.sc x = true) (hd : (x == sDbg) = false) (hcd : (x == sCd) = false) :
    StOk I (.Return (some (.Name x npos)) pos) (fun env => (getv env i).s fun d => .rt d (env.set i none)) := by
  refine ⟨tRet (tVar i), fun X hX => ps_ret (pe_var (by rw [hX.N]; exact hN) (by rw [hX.sc]; exact visB_ok hv) hd hcd), fun B F ω H σ env D S W => ?_⟩
  obtain ⟨d, h, W1⟩ := W.getv
  obtain ⟨v, ω', hσ, S'⟩ := S.take h
  exact ⟨v, hσ, W1 v F ω' H σ S' (Evl.Ex.refl F)⟩
theorem s_exp {e : Expr} {pos : Pos} {ev : Env → R TI.D} (he : EOk I .f e ev) (hn : notComp e = true) : StOk I (.Expr e pos) (fun env => (ev env).s fun _ => .nx env) := by
  obtain ⟨t, h1, h2⟩ := he.se
  refine ⟨tDrop t, fun X hX => ps_expr (h1 X hX.toXOk) (noSwap hn), fun B F ω H σ env D S W => ?_⟩
  exact h2.go S W fun d v F1 ω1 H1 W1 R g => W1 F1 ω1 H1 σ R.1 g.ex
end TI
set_option Elab.async false
set_option linter.all false
set_option maxRecDepth 10000
/-! TIX: reversed, dicts of tuples, counts, len(set(..)), isinstance. -/
namespace TI
open PySem PySem.Spec PyProof.Rows L2
variable {K : PySem.W.Frag} {B : Base} {F F' H H' : Hp} {ω ω' : Om} {σ : L2.St} {env : Env} {T : List (V × D)} {d : D} {v : V} {I : Info} {m : M} {p : Addr}

theorem reps_rev : ∀ {xs : List D} {vs : List V}, Reps K F xs vs → Reps K F xs.reverse vs.reverse
  | [], _, h => by rw [Reps] at h; subst h; exact reps_nil
  | x :: xs, _, h => by
    rw [Reps] at h
    obtain ⟨v, vr, rfl, h1, h2⟩ := h
    rw [List.reverse_cons, List.reverse_cons]
    exact reps_append (reps_rev h2) (reps_one h1)
theorem e_rev {a : Expr} {k : Nat} {p1 p2 p3 pos : Pos} {eva : Env → R D} (ha : EOk I .f a eva) :
    EOk I m (.Subscript a (.Slice none none (some (.UnaryOp .USub (.Constant (.int 1) k p1) p2)) p3) pos) (fun env => do let x ← eva env; revD (m == .o) x) := by
  obtain ⟨ta, pa, sa⟩ := ha.se
  refine EOk.of (tRevF I.K ta) (fun X hX => by rw [← hX.K]; exact pe_revF (pa X hX)) rfl fun B F ω H σ env T Q S W => ?_
  refine sa B F ω H σ env T _ S (W.bindM (fun x W1 vx F1 ω1 H1 R1 g1 => ?_) fun x h => h)
  obtain ⟨S1, r1⟩ := R1
  unfold revD at W1
  split at W1
  · obtain ⟨p, vs, rfl, h1, h2⟩ := rep_lst S1 r1
    exact ⟨p, vs, rfl, .inl ⟨SqL.of h1, S1.allocL (reps_rev h2) fun v F' ω' H' R g => W1 v F' ω' H' R (g1.trans g)⟩⟩
  · obtain ⟨p, vs, rfl, h1, h2⟩ := rep_tup S1 r1
    exact ⟨p, vs, rfl, .inr ⟨h1, S1.allocT (reps_rev h2) fun v F' ω' H' R g => W1 v F' ω' H' R (g1.trans g)⟩⟩
  · exact W1.elim

theorem ints_reps : ∀ {xs : List D} {vs : List V} {ns : List Int}, intsD xs = some ns → Reps K F xs vs → vs = ns.map V.int ∧ xs = ns.map D.int
  | [], _, _, h, r => by cases h; rw [Reps] at r; exact ⟨r, rfl⟩
  | .int i :: xs, _, ns, h, r => by
    rw [intsD] at h
    cases e : intsD xs with
    | none => rw [e] at h; cases h
    | some ms =>
      rw [e] at h
      cases h
      rw [Reps] at r
      obtain ⟨v, vr, rfl, h1, h2⟩ := r
      cases h1
      obtain ⟨e1, e2⟩ := ints_reps e h2
      exact ⟨by rw [e1]; rfl, by rw [e2]; rfl⟩
  | .non :: _, _, _, h, _ => by cases h
  | .bl _ :: _, _, _, h, _ => by cases h
  | .str _ :: _, _, _, h, _ => by cases h
  | .scr _ :: _, _, _, h, _ => by cases h
  | .lst _ _ :: _, _, _, h, _ => by cases h
  | .tup _ :: _, _, _, h, _ => by cases h
  | .pr _ :: _, _, _, h, _ => by cases h
  | .dK _ _ _ :: _, _, _, h, _ => by cases h
  | .dT _ _ :: _, _, _, h, _ => by cases h

theorem Sta.allocD {Q : VK} (S : Sta K B F ω H σ env T)
    (k : ∀ v F' ω' H', Res K m B F' ω' H' σ env T v (.dT (m == .o) []) → Grow F ω H F' ω' H' → Q v H') : ∀ p, H p = none → Q (.ref p) (upd H p (DTO p [])) := fun p hp => by
  have frz : Sta K B (upd F p (DTO p [])) ω (upd H p (DTO p [])) σ env T ∧ Grow F ω H (upd F p (DTO p [])) ω (upd H p (DTO p [])) ∧ Rep K (upd F p (DTO p [])) (.dT false []) (.ref p) := by
    obtain ⟨S', g⟩ := S.newFrz (o := DTO p []) hp
    exact ⟨S', g, by rw [Rep]; exact ⟨rfl, p, [], rfl, upd_same, rfl, fun x hx => by cases hx⟩⟩
  cases m with
  | f => obtain ⟨S', g, r⟩ := frz; exact k _ _ _ _ (Res.of S' r) g
  | b => obtain ⟨S', g, r⟩ := frz; exact k _ _ _ _ (Res.of S' r) g
  | o =>
    obtain ⟨S', g⟩ := S.newOwn (o := DTO p []) (d := .dT true []) hp fun H' ω' h1 h2 => by
      rw [Own]; exact ⟨p, [], rfl, h1, h2, rfl, fun x hx => by cases hx⟩
    exact k _ _ _ _ S' g
theorem e_dnew {pos : Pos} : EOk I m (.Dict [] [] pos) (fun _ => .ok (.dT (m == .o) [])) :=
  EOk.of tDNewF (fun X hX => pe_dnewF) rfl fun B F ω H σ env T Q S W => S.allocD W

theorem has_map {as : List (List Int × Addr)} {k : List Int} : hasI as k = hasK (as.map (·.1)) k := by
  unfold hasI hasK
  rw [List.any_map]; rfl
theorem hold_dT {o : Bool} {ks : List (List Int)} (S : Sta K B F ω H σ env T) (h : Hold K m F H ω (.dT o ks) v) : ∃ p as, v = .ref p ∧ H p = some (DTO p as) ∧ as.map (·.1) = ks ∧ KeysAt K H as := by
  obtain ⟨t, path, h⟩ := h.own
  cases o with
  | true =>
    rw [Own] at h
    obtain ⟨p, as, rfl, h1, _, h2, h3⟩ := h
    exact ⟨p, as, rfl, h1, h2, h3.mono S.ex⟩
  | false =>
    rw [Own, Rep] at h
    obtain ⟨_, p, as, rfl, h1, h2, h3⟩ := h
    exact ⟨p, as, rfl, S.ex _ _ h1, h2, h3.mono S.ex⟩
def dinOp (neg : Bool) : CmpOp := if neg = true then .NotIn else .In
theorem e_din {neg : Bool} {a b : Expr} {pos : Pos} {eva evb : Env → R D} (ha : EOk I .f a eva) (hb : EOk I .b b evb) (hn : notSet b = true) :
    EOk I m (.Compare a [dinOp neg] [b] pos) (fun env => do let x ← eva env; let y ← evb env; dinD neg x y) := by
  obtain ⟨ta, pa, sa⟩ := ha.se
  obtain ⟨tb, pb, sb⟩ := hb.se
  have op : ∀ X, XOk I X → OpR X (compareOp (dinOp neg)) (rDIn I.K neg) := fun X hX => by
    rw [← hX.K]
    cases neg with
    | true => exact op_dnotT (by have := hX.room.un; omega)
    | false => exact op_dinT (by have := hX.room.un; omega)
  refine ⟨tOp (rDIn I.K neg) ta tb, fun X hX => ⟨?_, fun _ => ?_⟩, ?_⟩
  · exact pe_cmpR (op X hX) (pa X hX) (pb X hX) (noMarks hn)
  · exact pt_cmpR (op X hX) (pa X hX) (pb X hX) (noMarks hn)
  · refine SE.two (by decide) (by decide) sa sb fun B F ω H σ env T Q x y vx vy S hx hy W => ?_
    unfold dinD at W
    split at W
    · rename_i xs o ks
      obtain ⟨q, e, W1⟩ := W.ofO
      obtain ⟨b, vs, rfl, h1, h2⟩ := rep_tupN S hx
      obtain ⟨e1, e2⟩ := ints_reps e h2
      subst e1
      obtain ⟨d, as, rfl, h3, h4, h5⟩ := hold_dT S hy
      refine ⟨b, q, d, as, rfl, h1, rfl, h3, h5, ?_⟩
      rw [has_map, h4]
      exact W1 _ _ _ _ (Res.of S rfl) Grow.refl
    · exact W.elim

theorem eqV_ints (k : Int) : ∀ ns : List Int, (ns.map V.int).countP (fun z => eqV z (.int k)) = ns.count k
  | [] => rfl
  | n :: ns => by
    rw [List.map_cons, List.countP_cons, eqV_ints k ns, List.count_cons]
    rfl
theorem flat_ints (ns : List Int) : (ns.map V.int).all flatV = true := by
  rw [List.all_map]
  exact List.all_eq_true.mpr fun x _ => rfl
theorem e_tcount {a b : Expr} {apos cpos : Pos} {eva evb : Env → R D} (ha : EOk I .f a eva) (hb : EOk I .f b evb) (hn : notStar b = true) (hp : ∀ env, attributeBase a "count" env (eval a env) = eval a env) (hl : (apos.endLine == cpos.line) = true) :
    EOk I m (.Call (.Attribute a "count" apos) [b] [] cpos) (fun env => do let x ← eva env; let xs ← asTup x; let y ← evb env; tcountD xs y) := by
  obtain ⟨ta, pa, sa⟩ := ha.se
  obtain ⟨tb, pb, sb⟩ := hb.se
  refine EOk.of (tCount I.K ta (tCons tb tNil)) (fun X hX => ?_) rfl fun B F ω H σ env T Q S W => ?_
  · rw [← hX.K]
    exact pe_count (pa X hX) (pa_cons (pb X hX) pa_nil (star_cons hn)) (hp _) (star_cons hn) hl
  · refine sa B F ω H σ env T _ S (W.bindM (fun x W1 vx F1 ω1 H1 R1 g1 => ?_) fun x h => h)
    obtain ⟨S1, r1⟩ := R1
    obtain ⟨xs, rfl⟩ : ∃ xs, x = .tup xs := by cases x <;> first | exact ⟨_, rfl⟩ | exact W1.elim
    have W1 : Want (evb env >>= fun y => tcountD xs y) _ _ := W1
    obtain ⟨p, vs, rfl, h1, h2⟩ := rep_tupN S1 r1
    refine ⟨p, vs, rfl, h1, ?_⟩
    refine sb B F1 ω1 H1 σ env T _ S1 (W1.bindM (fun y W2 vy F2 ω2 H2 R2 g2 => ?_) fun x h => h.grow g1)
    obtain ⟨S2, r2⟩ := R2
    unfold tcountD at W2
    split at W2
    · rename_i k
      obtain ⟨ns, e, W3⟩ := W2.ofO
      obtain ⟨e1, e2⟩ := ints_reps e h2
      subst e1
      cases r2
      obtain ⟨_, vs', ev, h1', h2'⟩ := rep_tupN S2 (r1.mono g2.ex)
      cases ev
      obtain ⟨e3, _⟩ := ints_reps e h2'
      subst e3
      refine ⟨_, rfl, h1', flat_ints ns, rfl, ?_⟩
      rw [eqV_ints]
      exact W3 _ _ _ _ (Res.of S2 rfl) (g1.trans g2)
    · exact W2.elim
theorem e_lset {a : Expr} {p p2 q pos : Pos} {eva : Env → R D} (hI : IOk I) (hg : glB I.sc "len" = true) (hg2 : glB I.sc "set" = true) (ha : EOk I .f a eva) (hn : notStar a = true) :
    EOk I m (.Call (.Name "len" p) [.Call (.Name "set" p2) [a] [] q] [] pos) (fun env => do let x ← eva env; lsetD x) := by
  obtain ⟨ta, pa, sa⟩ := ha.se
  refine EOk.of (tLenSetT I.K ta) (fun X hX => ?_) rfl fun B F ω H σ env T Q S W => ?_
  · rw [← hX.K]
    exact pe_lenSetT hX.calm (glB_ok hX.sc hg) (by rw [hX.mg]; exact hI.blt _ (by decide)) (glB_ok hX.sc hg2) (by rw [hX.mg]; exact hI.blt _ (by decide)) (pa X hX) (star_cons hn)
  · refine sa B F ω H σ env T _ S (W.bindM (fun x W1 vx F1 ω1 H1 R1 g1 => ?_) fun x h => h)
    obtain ⟨S1, r1⟩ := R1
    unfold lsetD at W1
    split at W1
    · obtain ⟨ns, e, W2⟩ := W1.ofO
      obtain ⟨h, W3⟩ := W2.gd
      obtain ⟨p, vs, rfl, h1, h2⟩ := rep_tupN S1 r1
      obtain ⟨e1, e2⟩ := ints_reps e h2
      subst e1
      exact ⟨p, ns, rfl, h1, of_decide_eq_true h, W3 _ _ _ _ (Res.of S1 rfl) g1⟩
    · exact W1.elim
theorem idxI_ok {k : Int} : ∀ {ns : List Int} {j : Nat}, idxI k ns = some j → ns[j]? = some k ∧ ∀ i z, i < j → ns[i]? = some z → z ≠ k
  | [], _, h => by cases h
  | x :: r, j, h => by
    unfold idxI at h
    by_cases e : x = k
    · rw [if_pos e] at h
      cases h
      exact ⟨by rw [e]; rfl, fun i z hi => absurd hi (Nat.not_lt_zero _)⟩
    · rw [if_neg e] at h
      cases e2 : idxI k r with
      | none => rw [e2] at h; cases h
      | some j' =>
        rw [e2] at h
        cases h
        obtain ⟨h1, h2⟩ := idxI_ok e2
        refine ⟨by simpa using h1, fun i z hi hz => ?_⟩
        cases i with
        | zero => simp at hz; exact fun e' => e (by rw [hz]; exact e')
        | succ i => exact h2 i z (Nat.lt_of_succ_lt_succ hi) (by simpa using hz)

theorem kit_int {T : Ty} : kitB "int" (tyN T) = some (decide (T = .int)) := by cases T <;> decide +kernel
theorem kit_bool {T : Ty} : kitB "bool" (tyN T) = some (decide (T = .int) || decide (T = .bool)) := by cases T <;> decide +kernel
theorem kit_non {T : Ty} : kitB "NoneType" (tyN T) = some false := by cases T <;> decide +kernel
theorem kit_list {T : Ty} : kitB "list" (tyN T) = some (decide (T = .list)) := by cases T <;> decide +kernel
theorem kit_tuple {T : Ty} : kitB "tuple" (tyN T) = some (decide (T = .tuple)) := by cases T <;> decide +kernel
theorem boot_tyN {T : Ty} : bootBuiltins (tyN T) = some (.type (tyN T)) := by cases T <;> decide +kernel
theorem e_isi {T : Ty} {a : Expr} {p p2 pos : Pos} {eva : Env → R D} (hI : IOk I) (hg : glB I.sc "isinstance" = true) (hg2 : glB I.sc (tyN T) = true) (ha : EOk I .f a eva) (hn : notStar a = true) :
    EOk I m (.Call (.Name "isinstance" p) [a, .Name (tyN T) p2] [] pos) (fun env => do let x ← eva env; let b ← isiD T x; .ok (.bl b)) := by
  obtain ⟨ta, pa, sa⟩ := ha.se
  have hm : ∀ X, XOk I X → X.mg (tyN T) = none := fun X hX => by rw [hX.mg]; exact hI.blt _ (by cases T <;> decide)
  refine EOk.of (tCB (rIsi I.K) (tCons ta (tCons (tC (.ty (tyN T))) tNil))) (fun X hX => ?_) rfl fun B F ω H σ env T' Q S W => ?_
  · rw [← hX.K]
    exact pe_callB call_isi (glB_ok hX.sc hg) (by rw [hX.mg]; exact hI.blt _ (by decide)) (by decide +kernel) (pa_cons (pa X hX) (pa_cons (pe_bltn (glB_ok hX.sc hg2) (hm X hX) boot_tyN rfl (by cases T <;> decide) (by cases T <;> decide)) pa_nil rfl) (star_cons hn)) (by decide) (by decide) (star_cons hn) rfl
  · refine sa B F ω H σ env T' _ S (W.bindM (fun x W1 vx F1 ω1 H1 R1 g1 => ?_) fun x h => h)
    obtain ⟨S1, r1⟩ := R1
    have key : ∀ (b : Bool) (t : Value), isiD T x = .ok b → TyX I.K H1 vx t → PySem.W.kitOne I.K t (.type (tyN T)) = some b → tCons (tC (.ty (tyN T))) tNil σ H1 (fun xs H2 => rIsi I.K (vx :: xs) H2 Q) := by
      intro b t hb ty hk
      rw [hb] at W1
      exact ⟨vx, _, t, _, b, rfl, .ty _, ty, hk, W1 _ _ _ _ (Res.of S1 rfl) g1⟩
    cases x with
    | non => cases r1; exact key _ _ rfl (.base .non) (kit_ty kit_non)
    | int i => cases r1; exact key _ _ rfl (.base (.int i)) (kit_ty kit_int)
    | bl i => cases r1; exact key _ _ rfl (.base (.bl i)) (kit_ty kit_bool)
    | lst o xs =>
      cases o with
      | true => exact W1.elim
      | false =>
        obtain ⟨p, vs, rfl, h1, h2⟩ := rep_lst S1 r1
        exact key _ _ rfl (.base (.lst h1)) (kit_ty kit_list)
    | tup xs =>
      obtain ⟨p, vs, rfl, h1, h2⟩ := rep_tupN S1 r1
      rcases h1 with ⟨o, h1, _⟩ | ⟨o, its, n, h1, h3, _⟩
      · exact key _ _ rfl (.fTuple h1) (kit_ty kit_tuple)
      · exact key _ _ rfl (.kTuple h1 h3) (kit_ty kit_tuple)
    | _ => exact W1.elim

/-! ### d[k] = True, k a tuple of ints -/
theorem hasK_put {ks : List (List Int)} {as : List (List Int × Addr)} {q : List Int} {b : Addr} (h : as.map (·.1) = ks) : (putI as q b).map (·.1) = if hasK ks q = true then ks else ks ++ [q] := by
  unfold putI
  rw [has_map, h]
  split
  · exact h
  · rw [List.map_append, h]; rfl
theorem Sta.wrD {i : Nat} {ks ks' : List (List Int)} {as' : List (List Int × Addr)} (S : Sta K B F ω H σ env T) (he : env[i]? = some (some (.dT true ks))) (hσ : σ[i]? = some (some (.ref p))) (hω : ω p = some ((0, i), []))
    (h1 : as'.map (·.1) = ks') (h2 : KeysAt K F as') : Sta K B F ω (upd H p (DTO p as')) σ (env.set i (some (.dT true ks'))) T := by
  refine S.write hω (by simp) (Nat.le_refl _) (fun j d h => ?_) (fun j v d h => .inl ⟨by simp, h⟩)
  rw [List.getElem?_set] at h
  by_cases e : i = j
  · subst e
    rw [if_pos rfl, if_pos (List.getElem?_eq_some_iff.mp he).1] at h
    obtain rfl : D.dT true ks' = d := by simpa using h
    refine .inr ⟨rfl, _, hσ, ?_⟩
    rw [Own]
    exact ⟨p, as', rfl, upd_same, hω, h1, h2⟩
  · rw [if_neg e] at h
    exact .inl ⟨fun z => e (by simpa using z.symm), h⟩
theorem s_dput {i : Nat} {x : Str} {kx e : Expr} {npos pos pos' : Pos} {ev evk : Env → R TI.D} (hN : I.N[i]? = some x) (hv : visB I.sc x = true) (hd : (x == sDbg) = false) (hcd : (x == sCd) = false)
    (he : EOk I .f e ev) (hk : EOk I .f kx evk) (hsw : ∀ tg l env, swapsWith e (some (.Subscript (.Name x npos) kx tg)) l env = pure false) :
    StOk I (.Assign [.Subscript (.Name x npos) kx pos'] e pos) (fun env => (ev env).s fun d => (isTrue d).s fun _ => (ownDT env i).s fun ks => (evk env).s fun y => (asKT y).s fun q => (gd (decide (ks.length < lim))).s fun _ => .nx (env.set i (some (.dT true (if hasK ks q = true then ks else ks ++ [q]))))) := by
  obtain ⟨t, h1, h2⟩ := he.se
  obtain ⟨u, g1, g2⟩ := hk.se
  refine ⟨sDPutF I.K (tVar i) u t, fun X hX => ?_, fun B F ω H σ env D S W => ?_⟩
  · rw [← hX.K]
    exact ps_dputF (by have := hX.room.un; omega) (pe_var (by rw [hX.N]; exact hN) (by rw [hX.sc]; exact visB_ok hv) hd hcd) (g1 X hX.toXOk) (h1 X hX.toXOk) (hsw _ _ _)
  · refine h2.go S W fun d y F1 ω1 H1 W1 R g => ?_
    obtain ⟨S1, r1⟩ := R
    obtain ⟨rfl, W1⟩ : d = .bl true ∧ _ := by
      cases d with
      | bl b => cases b with
        | true => exact ⟨rfl, W1⟩
        | false => exact W1.elim
      | _ => exact W1.elim
    have W1 : WantS I B F ((ownDT env i).s fun ks => (evk env).s fun y => (asKT y).s fun q => (gd (decide (ks.length < lim))).s fun _ => .nx (env.set i (some (.dT true (if hasK ks q = true then ks else ks ++ [q]))))) D := W1
    cases eo : ownDT env i with
    | exc x => exact absurd eo ownDT_nx
    | fail => rw [eo] at W1; exact W1.elim
    | ok ks =>
      rw [eo] at W1
      have he := ownDT_ok eo
      obtain ⟨v, hσ, ho⟩ := S1.slot i _ he
      rw [Own] at ho
      obtain ⟨p, as, rfl, hH, hω, ha, hK⟩ := ho
      cases r1
      refine ⟨_, hσ, ?_⟩
      have W1 : WantS I B F ((evk env).s fun y => (asKT y).s fun q => (gd (decide (ks.length < lim))).s fun _ => .nx (env.set i (some (.dT true (if hasK ks q = true then ks else ks ++ [q]))))) D := W1
      refine g2.go2 S1 g.ex W1 fun k kv F2 ω2 H2 W3 R2 q2 => ?_
      obtain ⟨S2, r2⟩ := R2
      cases k with
      | tup xs =>
        have W3 : WantS I B F ((ofO (intsD xs)).s fun q => (gd (decide (ks.length < lim))).s fun _ => .nx (env.set i (some (.dT true (if hasK ks q = true then ks else ks ++ [q]))))) D := W3
        obtain ⟨q, hq, W4⟩ := W3.ofO
        obtain ⟨hl, W5⟩ := W4.gd
        rw [Rep] at r2
        obtain ⟨b, vs, rfl, n1, n2⟩ := r2
        obtain ⟨e1, e2⟩ := ints_reps hq n2
        subst e1
        obtain ⟨c1, c2⟩ := q2.cell p _ hω
        have hK2 : KeysAt I.K F2 as := hK.mono q2.ex
        refine ⟨p, b, q, as, rfl, rfl, rfl, n1.mono S2.ex, by rw [c2]; exact hH, hK2.mono S2.ex, ?_, ?_⟩
        · have hl := of_decide_eq_true hl
          rw [← ha, List.length_map] at hl
          exact Nat.lt_of_lt_of_le hl (by decide)
        · refine W5 F2 ω2 _ σ (S2.wrD he hσ c1 (hasK_put ha) ?_) (g.ex.trans q2.ex)
          intro z hz
          unfold putI at hz
          split at hz
          · exact hK2 z hz
          · rcases List.mem_append.mp hz with hz | hz
            · exact hK2 z hz
            · rw [List.mem_singleton.mp hz]
              exact n1
      | _ => exact W3.elim

/-! ### a, b, c = x, y, z; a, b = two constants -/
def par3B (sc : Scope) (x y z : Str) (px py pz : Pos) (a b c : Expr) : Bool :=
  decide (sc.kind = .function) && decide (sc.names.lookup x = some .local) && decide (sc.names.lookup y = some .local) && decide (sc.names.lookup z = some .local) && (py.line == px.line) && (pz.line == px.line) && decide (x ≠ y) && decide (x ≠ z) && decide (y ≠ z) &&
    !([a, b, c].all (foldedForSure 8)) && !([a, b, c].all (constantsAlone 8)) && notStar a && notStar b && notStar c
theorem par3_swaps {env : PySem.Env} {x y z : Str} {px py pz pt : Pos} {kt k2 : Nat} {pt2 : Pos} {a b c : Expr} (h : par3B env.scope x y z px py pz a b c = true) :
    swappedStores [.Tuple [.Name x px, .Name y py, .Name z pz] kt pt] (.Tuple [a, b, c] k2 pt2) env = pure (some [x, y, z]) := by
  unfold par3B at h
  simp only [Bool.and_eq_true, decide_eq_true_eq, Bool.not_eq_true', beq_iff_eq] at h
  obtain ⟨⟨⟨⟨⟨⟨⟨⟨⟨⟨⟨⟨⟨h1, h2⟩, h3⟩, h3'⟩, h4⟩, h4'⟩, h5⟩, h5'⟩, h5''⟩, h6⟩, h7⟩, h8⟩, h9⟩, h10⟩ := h
  have hb : env.blockKind = .function := by unfold Env.blockKind; rw [h1]; rfl
  have kx : env.kindOf x = some .local := h2
  have ky : env.kindOf y = some .local := h3
  have kz : env.kindOf z = some .local := h3'
  have e4 : [x, y, z].eraseDups.length = 3 := by
    have q1 : (y == x) = false := by simp [Ne.symm h5]
    have q2 : (z == x) = false := by simp [Ne.symm h5']
    have q3 : (z == y) = false := by simp [Ne.symm h5'']
    simp [List.eraseDups_cons, List.filter, q1, q2, q3]
  unfold swappedStores
  simp only [List.length_cons, List.length_nil, hb]
  simp only [h6, h7]
  simp [Expr.pos, kx, ky, kz, h4, h4', e4]
  intro h
  exfalso
  rcases h with h | h | h
  · cases a <;> first | (simp [notStar] at h8; done) | (simp at h)
  · cases b <;> first | (simp [notStar] at h9; done) | (simp at h)
  · cases c <;> first | (simp [notStar] at h10; done) | (simp at h)
theorem s_par3 {i j l : Nat} {x y z : Str} {a b c : Expr} {px py pz pt pos : Pos} {kt k2 : Nat} {pt2 : Pos} {eva evb evc : Env → R TI.D} (hI : IOk I) (hN : I.N[i]? = some x) (hN' : I.N[j]? = some y) (hN'' : I.N[l]? = some z) (hij : i ≠ j) (hil : i ≠ l) (hjl : j ≠ l)
    (hp : par3B I.sc x y z px py pz a b c = true) (ha : EOk I .f a eva) (hb : EOk I .f b evb) (hc : EOk I .f c evc) :
    StOk I (.Assign [.Tuple [.Name x px, .Name y py, .Name z pz] kt pt] (.Tuple [a, b, c] k2 pt2) pos) (fun env => (eva env).s fun x => (evb env).s fun y => (evc env).s fun z => .nx (((env.set i (some x)).set j (some y)).set l (some z))) := by
  obtain ⟨t, h1, h2⟩ := ha.se
  obtain ⟨u, g1, g2⟩ := hb.se
  obtain ⟨w, f1, f2⟩ := hc.se
  have hp' := hp
  unfold par3B at hp
  simp only [Bool.and_eq_true, decide_eq_true_eq, Bool.not_eq_true', beq_iff_eq] at hp
  obtain ⟨⟨⟨⟨⟨⟨⟨⟨⟨⟨⟨⟨⟨_, n1⟩, n2⟩, n3⟩, _⟩, _⟩, _⟩, _⟩, _⟩, _⟩, _⟩, h8⟩, h9⟩, h10⟩ := hp
  refine ⟨tPar3 i j l (tCons t (tCons u (tCons w tNil))), fun X hX => ?_, fun B F ω H σ env D S W => ?_⟩
  · exact ps_par3 hX.calm (by rw [hX.N]; exact hI.nd) (by rw [hX.N]; exact hN) (by rw [hX.N]; exact hN') (by rw [hX.N]; exact hN'') hij hil hjl (by rw [hX.sc]; exact n1) (by rw [hX.sc]; exact n2) (by rw [hX.sc]; exact n3)
      (pa_cons (h1 X hX.toXOk) (pa_cons (g1 X hX.toXOk) (pa_cons (f1 X hX.toXOk) pa_nil (star_cons h10)) (star_cons h9)) (star_cons h8)) (par3_swaps (by rw [hX.sc]; exact hp')) rfl
  · refine h2.go S W fun d v F1 ω1 H1 W1 R g => ?_
    obtain ⟨S1, r1⟩ := R
    refine g2.go2 S1 g.ex W1 fun d2 v2 F2 ω2 H2 W2 R2 q2 => ?_
    obtain ⟨S2, r2⟩ := R2
    refine f2.go2 S2 (g.ex.trans q2.ex) W2 fun d3 v3 F3 ω3 H3 W3 R3 q3 => ?_
    obtain ⟨S3, r3⟩ := R3
    exact ⟨v, v2, v3, rfl, W3 F3 ω3 H3 _ (((S3.setFrz ((r1.mono q2.ex).mono q3.ex)).setFrz (r2.mono q3.ex)).setFrz r3) ((g.ex.trans q2.ex).trans q3.ex)⟩
theorem parc_swaps {env : PySem.Env} {x y : Str} {px py pt : Pos} {kt k2 : Nat} {pt2 : Pos} {a b : Expr} (h : [a, b].all (foldedForSure 8) = true) (ha : notStar a = true) (hb : notStar b = true) :
    swappedStores [.Tuple [.Name x px, .Name y py] kt pt] (.Tuple [a, b] k2 pt2) env = pure none := by
  unfold swappedStores
  simp only [h]
  simp
  repeat' split
  all_goals first | rfl | (simp; done) | skip
theorem s_parc {i j : Nat} {x y : Str} {a b : Expr} {px py pt pos : Pos} {kt k2 : Nat} {pt2 : Pos} {evs : Env → R (List TI.D)} (hI : IOk I) (hN : I.N[i]? = some x) (hN' : I.N[j]? = some y) (hl : I.loc x = true) (hl' : I.loc y = true)
    (hf : [a, b].all (foldedForSure 8) = true) (na : notStar a = true) (nb : notStar b = true) (hs : EsOk I [a, b] evs) :
    StOk I (.Assign [.Tuple [.Name x px, .Name y py] kt pt] (.Tuple [a, b] k2 pt2) pos) (fun env => (evs env).s fun ds => (bindT (.many [i, j]) (.tup ds) env).s .nx) := by
  obtain ⟨t, h1, h2, _⟩ := hs
  obtain ⟨g, g1, g2⟩ := g_many (j := kt) (pos := pt) (gs_cons (pos := px) hI hN hl (gs_cons (pos := py) hI hN' hl' gs_nil)) rfl
  refine ⟨tAsg (tTupF t) g, fun X hX => ?_, fun B F ω H σ env D S W => ?_⟩
  · exact ps_asg (pe_tupF (h1 X hX.toXOk)) (g1 X hX.toXOk) (by rw [swapsWithSole]; rfl) (parc_swaps hf na nb) rfl
  · refine h2 B F ω H σ env [] _ S (W.of.mono (fun ds W1 vs F1 ω1 H1 S1 r1 q1 => ?_) fun x hx => fun F' ω' H' S' g => hx F' ω' H' σ env S' g.ex)
    cases e1 : bindT (.many [i, j]) (.tup ds) env with
    | exc x => exact absurd e1 bindT_nx
    | fail => rw [e1] at W1; exact W1.elim
    | ok env1 =>
      rw [e1] at W1
      have hl2 : ds.length = 2 := bindM_len e1
      refine ⟨by rw [reps_len r1, hl2]; decide, S1.allocT (m := .f) r1 fun v F' ω' H' R g => ?_⟩
      exact g2 B F' ω' H' σ env [] (.tup ds) v env1 _ R.1 R.2 e1 fun σ1 S1 _ => W1 F' ω' H' σ1 S1 (q1.ex.trans g.ex)
end TI
set_option Elab.async false
set_option linter.all false
set_option maxRecDepth 10000
/-! TIY: values lent to calls whose result is flat; owned values through a pair; clear. -/
namespace TI
open PySem PySem.Spec PyProof.Rows L2
variable {K : PySem.W.Frag} {B : Base} {F F' H H' : Hp} {ω ω' : Om} {σ : L2.St} {env : Env} {T : List (V × D)} {d : D} {v : V} {I : Info} {m : M} {p : Addr}

theorem e_listb {a : Expr} {p pos : Pos} {eva : Env → R D} (hI : IOk I) (hg : glB I.sc "list" = true) (ha : EOk I .b a eva) (hn : notStar a = true) :
    EOk I m (.Call (.Name "list" p) [a] [] pos) (fun env => do let x ← eva env; gd (kidsF x); biD .list (m == .o) [x]) := by
  obtain ⟨ta, pa, sa⟩ := ha.se
  refine EOk.of (tCB (rBi I.K .list) (tCons ta tNil)) (fun X hX => ?_) rfl fun B F ω H σ env T Q S W => ?_
  · rw [← hX.K]
    exact bi_call (b := .list) hX.calm (glB_ok hX.sc hg) (by rw [hX.mg]; exact hI.blt _ (by decide)) (pa_cons (pa X hX) pa_nil (star_cons hn)) (star_cons hn) rfl
  · refine sa B F ω H σ env T _ S (W.bindM (fun x W1 vx F1 ω1 H1 R1 g1 => ?_) fun x h => h)
    obtain ⟨S1, r1⟩ := R1.hold (by decide)
    obtain ⟨k, W2⟩ := W1.gd
    cases x with
    | lst o xs =>
      obtain ⟨p, vs, rfl, h1, h2⟩ := hold_lst S1 r1 k
      exact ⟨p, vs, rfl, .inl (SqL.of h1), S1.allocL h2 fun v F' ω' H' R g => W2 v F' ω' H' R (g1.trans g)⟩
    | tup xs =>
      obtain ⟨t, path, hz⟩ := r1.own
      rw [Own] at hz
      obtain ⟨p, vs, rfl, h1, h2⟩ := rep_tup S1 hz
      exact ⟨p, vs, rfl, .inr h1, S1.allocL h2 fun v F' ω' H' R g => W2 v F' ω' H' R (g1.trans g)⟩
    | scr ns =>
      obtain ⟨t, path, hz⟩ := r1.own
      rw [Own] at hz
      obtain ⟨p, rfl, h1⟩ := rep_scr S1 hz
      exact ⟨p, _, rfl, .inl h1, S1.allocL reps_ints fun v F' ω' H' R g => W2 v F' ω' H' R (g1.trans g)⟩
    | _ => exact W2.elim
def isOp (neg : Bool) : CmpOp := if neg = true then .IsNot else .Is
theorem e_isb {neg : Bool} {a : Expr} {k : Nat} {p2 pos : Pos} {eva : Env → R D} (ha : EOk I .b a eva) :
    EOk I m (.Compare a [isOp neg] [.Constant .none k p2] pos) (fun env => do let x ← eva env; .ok (.bl (if neg = true then !isNon x else isNon x))) := by
  obtain ⟨ta, pa, sa⟩ := ha.se
  have op : ∀ X, XOk I X → OpR X (compareOp (isOp neg)) (fun x y H Q => y = .non ∧ Q (.bl (if neg = true then !decide (x = V.non) else decide (x = V.non))) H) := fun X hX => by
    cases neg with
    | true => exact op_notN
    | false => exact op_isN
  refine ⟨tOp (fun x y H Q => y = .non ∧ Q (.bl (if neg = true then !decide (x = V.non) else decide (x = V.non))) H) ta (tC .non), fun X hX => ⟨?_, fun _ => ?_⟩, ?_⟩
  · exact pe_cmpR (op X hX) (pa X hX) pe_non (noMarks rfl)
  · exact pt_cmpR (op X hX) (pa X hX) pe_non (noMarks rfl)
  · intro B F ω H σ env T Q S W
    refine sa B F ω H σ env T _ S (W.bindM (fun x W1 vx F1 ω1 H1 R1 g1 => ?_) fun x h => h)
    obtain ⟨S1, r1⟩ := R1.hold (by decide)
    obtain ⟨t, path, hz⟩ := r1.own
    refine ⟨rfl, ?_⟩
    rw [non_iff hz]
    exact W1 _ _ _ _ (Res.of S1 rfl) g1

/-! ### arguments that are only lent -/
def Bors (K : PySem.W.Frag) (F H : Hp) (ω : Om) : List D → List V → Prop
  | [], vs => vs = []
  | x :: xs, vs => ∃ v vr, vs = v :: vr ∧ (∃ t path, Own K F H ω t x path v) ∧ Bors K F H ω xs vr
def EbOk (I : Info) (es : List Expr) (ev : Env → R (List D)) : Prop :=
  ∃ t : TA, (∀ X, XOk I X → PA X es t) ∧
    (∀ B F ω H σ env T Q, Sta I.K B F ω H σ env T → Want (ev env) (fun ds => ∀ vs F' ω' H', Sta I.K B F' ω' H' σ env T → Bors I.K F' H' ω' ds vs → Grow F ω H F' ω' H' → Q vs H') (EXW I B σ env T F ω H) → t σ H Q) ∧
    ∀ env ds, ev env = .ok ds → ds.length = es.length
theorem eb_nil : EbOk I [] (fun _ => .ok []) :=
  ⟨tNil, fun X hX => pa_nil, fun B F ω H σ env T Q S W => W _ _ _ _ S rfl Grow.refl, fun env ds h => by cases h; rfl⟩
theorem eb_cons {e : Expr} {es : List Expr} {ev : Env → R D} {evr : Env → R (List D)} (h : EOk I .b e ev) (hr : EbOk I es evr) (hn : notStar e = true) :
    EbOk I (e :: es) (fun env => do let d ← ev env; let ds ← evr env; .ok (d :: ds)) := by
  obtain ⟨t, h1, h2⟩ := h.se
  obtain ⟨u, g1, g2, g3⟩ := hr
  refine ⟨tCons t u, fun X hX => pa_cons (h1 X hX) (g1 X hX) (star_cons hn), fun B F ω H σ env T Q S W => ?_, fun env ds h => ?_⟩
  · refine h2 B F ω H σ env T _ S (W.bindM (fun x W1 vx F1 ω1 H1 R1 q1 => ?_) fun x h => h)
    obtain ⟨S1, r1⟩ := R1.hold (by decide)
    obtain ⟨tg, path, r1⟩ := r1.own
    refine g2 B F1 ω1 H1 σ env T _ S1 (W1.bindM (fun ds W2 vs F2 ω2 H2 S2 r2 q2 => ?_) fun x h => h.grow q1)
    exact W2 _ _ _ _ S2 ⟨vx, vs, rfl, ⟨tg, path, r1.grow q2⟩, r2⟩ (q1.trans q2)
  · cases e1 : ev env with
    | ok d =>
      simp only [e1, ok_bind] at h
      cases e2 : evr env with
      | ok r =>
        simp only [e2, ok_bind] at h
        cases h
        simp [g3 env r e2]
      | exc x => simp only [e2] at h; cases h
      | fail => simp only [e2] at h; cases h
    | exc x => simp only [e1] at h; cases h
    | fail => simp only [e1] at h; cases h
/-- everything tracked, as if it were frozen -/
def allF (F H : Hp) (ω : Om) : Hp := fun a => match ω a with
  | some _ => H a
  | none => F a
theorem allF_ex (S : Sta K B F ω H σ env T) : Ex F (allF F H ω) ∧ Ex (allF F H ω) H := by
  constructor
  · intro a o h
    unfold allF
    cases e : ω a with
    | none => exact h
    | some s => rw [S.dis a s e] at h; cases h
  · intro a o h
    unfold allF at h
    cases e : ω a with
    | none => rw [e] at h; exact S.ex a o h
    | some s => rw [e] at h; exact h
theorem allF_reps (S : Sta K B F ω H σ env T) : ∀ {ds : List D} {vs : List V}, Bors K F H ω ds vs → Reps K (allF F H ω) (fzs ds) vs
  | [], _, h => by
    have h : _ = [] := h
    subst h
    exact reps_nil
  | d :: ds, _, h => by
    obtain ⟨v, vr, rfl, ⟨t, path, h1⟩, h2⟩ := h
    rw [fzs]
    refine reps_cons (h1.freeze (allF_ex S).1 fun a q ha => ?_) (allF_reps S h2)
    unfold allF
    rw [ha]
/-- behind a call that kept nothing -/
theorem Sta.lent {F0 : Hp} {L : List (V × D)} (S : Sta K B F ω H σ env T) (C : Sta K ⟨H, F0, fun _ => False⟩ F' ω' H' [] [] L) : Sta K B F ω H' σ env T ∧ Grow F ω H F ω H' := by
  have hH : ∀ a o, H a = some o → H' a = some o := fun a o h => C.fr a o h (fun z => z)
  have g : Grow F ω H F ω H' := ⟨Evl.Ex.refl F, fun a s h => ⟨h, by
    cases e : H a with
    | none => exact absurd e (S.trk a s h)
    | some o => exact hH a o e⟩⟩
  refine ⟨⟨fun a o h => hH a o (S.ex a o h), S.dis, fun a s h => ?_, S.len, fun i d h => ?_, fun j v d h => (S.temp j v d h).grow g, S.low, fun a o h1 h2 => hH a o (S.fr a o h1 h2), S.pF, S.pω, S.keep⟩, g⟩
  · rw [(g.cell a s h).2]; exact S.trk a s h
  · obtain ⟨v, h1, h2⟩ := S.slot i d h
    exact ⟨v, h1, h2.grow g⟩
theorem flat_rep {t : Tag} {path : List Nat} (h : Own K F' H' ω' t d path v) (f : flatD d = true) : Rep K F d v := by
  cases d <;> first | exact h | (simp [flatD] at f)
theorem fzs_len : ∀ ds : List D, (fzs ds).length = ds.length
  | [] => rfl
  | d :: ds => by rw [fzs, List.length_cons, List.length_cons, fzs_len ds]
theorem e_callb {g n : Nat} {x : Str} {e : Expr} {es : List Expr} {p pos : Pos} {ev : Env → R (List D)} (hI : IOk I) (hn : I.nm g = some (x, n)) (hg : glB I.sc x = true) (hd : (x == sDbg) = false) (hl : (e :: es).length = n)
    (h : EbOk I (e :: es) ev) (hs : notStar e = true) (hp : (es.all notStar) = true) :
    EOk I m (.Call (.Name x p) (e :: es) [] pos) (fun env => do let ds ← ev env; let d ← (I.Φ g (fzs ds)).noX; gd (flatD d); .ok d) := by
  obtain ⟨f, fd, ps, hps, hmg, hk, hb, hf⟩ := hI.fns g x n hn
  obtain ⟨t, h1, h2, h3⟩ := h
  refine EOk.of (tCall (spOf I.K I.cls ps.length (I.Φ g)) [] I.E t) (fun X hX => ?_) rfl fun B F ω H σ env T Q S W => ?_
  · refine pe_call (ds := []) (k := I.k) (CX := I.CX) (f := f) (fd := fd) (ps := ps) ?_ hX.room (glB_ok hX.sc hg) (by rw [hX.mg]; exact hmg) (by rw [hX.K]; exact hk) (by rw [hX.K]; exact hb) .nil hX.pass (h1 X hX) hd (star_cons hs) ?_
    · rw [hX.prog, hX.w, hX.K, hX.mg, hX.base]; exact hf
    · exact star_all hp
  · refine h2 B F ω H σ env T _ S ?_
    cases e1 : ev env with
    | fail => rw [e1] at W; exact W
    | exc x => rw [e1] at W; exact W
    | ok ds =>
      rw [e1] at W
      intro vs F1 ω1 H1 S1 r1 g1
      have W : Want ((I.Φ g (fzs ds)).noX >>= _) _ _ := W
      rw [List.append_nil]
      have r2 := allF_reps S1 r1
      refine ⟨by rw [reps_len r2, fzs_len, h3 env ds e1, hl, hps], allF F1 H1 ω1, fzs ds, (allF_ex S1).2, r2, ?_⟩
      cases e2 : I.Φ g (fzs ds) with
      | fail => rw [e2] at W; exact W
      | exc x => rw [e2] at W; exact W.elim
      | ok d =>
        rw [e2] at W
        have W : Want (gd (flatD d) >>= fun _ => R.ok d) _ _ := W
        intro v F2 ω2 H2 C
        obtain ⟨k, W3⟩ := W.gd
        obtain ⟨S3, g3⟩ := S1.lent C
        exact W3 v F1 ω1 H2 (Res.of S3 (flat_rep (C.temp 0 v d rfl) k)) (g1.trans g3)

/-! ### owned values through a pair -/
/-- the state retagged -/
theorem Sta.retag {σ' : L2.St} {env' : Env} {T' : List (V × D)} (S : Sta K B F ω H σ env T) (hw : ∀ a s, ω' a = some s → ∃ s', ω a = some s') (hl : env'.length = σ'.length)
    (hs : ∀ i d, env'[i]? = some (some d) → ∃ v, σ'[i]? = some (some v) ∧ Own K F H ω' (0, i) d [] v) (ht : ∀ j v d, T'[j]? = some (v, d) → Own K F H ω' (1, j) d [] v)
    (hlow : ∀ a j q, ω' a = some ((1, j), q) → j < T'.length) : Sta K B F ω' H σ' env' T' :=
  ⟨S.ex, fun a s h => by obtain ⟨s', e⟩ := hw a s h; exact S.dis a s' e, fun a s h => by obtain ⟨s', e⟩ := hw a s h; exact S.trk a s' e, hl, hs, ht, hlow, S.fr, S.pF,
    fun a s h => by obtain ⟨s', e⟩ := hw a s h; exact S.pω a s' e, S.keep⟩
def rettO (i j : Nat) (ω : Om) : Om := fun a => match ω a with
  | some ((0, k), q) => if k = i then some ((1, 0), 0 :: q) else if k = j then some ((1, 0), 1 :: q) else some ((0, k), q)
  | _ => none
theorem s_rett {i j : Nat} {x y : Str} {n1 n2 pos tpos : Pos} {kt : Nat} (hN : I.N[i]? = some x) (hv : visB I.sc x = true) (hd : (x == sDbg) = false) (hcd : (x == sCd) = false)
    (hN' : I.N[j]? = some y) (hv' : visB I.sc y = true) (hd' : (y == sDbg) = false) (hcd' : (y == sCd) = false) :
    StOk I (.Return (some (.Tuple [.Name x n1, .Name y n2] kt tpos)) pos) (fun env => (getv env i).s fun d => (getv env j).s fun e => (gd (decide (i ≠ j))).s fun _ => .rt (.pr [d, e]) ((env.set i none).set j none)) := by
  refine ⟨tRet (tTupF (tCons (tVar i) (tCons (tVar j) tNil))), fun X hX => ps_ret (pe_tupF (pa_cons (pe_var (by rw [hX.N]; exact hN) (by rw [hX.sc]; exact visB_ok hv) hd hcd) (pa_cons (pe_var (by rw [hX.N]; exact hN') (by rw [hX.sc]; exact visB_ok hv') hd' hcd') pa_nil rfl) rfl)), fun B F ω H σ env D S W => ?_⟩
  obtain ⟨d, h1, W1⟩ := W.getv
  obtain ⟨e, h2, W2⟩ := W1.getv
  obtain ⟨hij, W3⟩ := W2.gd
  have hij := of_decide_eq_true hij
  obtain ⟨v, hσ, ho⟩ := S.slot i d h1
  obtain ⟨u, hσ', ho'⟩ := S.slot j e h2
  refine ⟨v, hσ, u, hσ', (by show 2 ≤ sizeLine; decide), fun p o hp hob => ?_⟩
  obtain ⟨S1, g1⟩ := S.newFrz (o := .frz o (.tup [v, u])) hp
  have ho1 := ho.grow g1
  have ho2 := ho'.grow g1
  have fwd : ∀ a s, rettO i j ω a = some s → ∃ s', ω a = some s' := fun a s h => by
    cases e : ω a with
    | none => unfold rettO at h; rw [e] at h; cases h
    | some s' => exact ⟨s', rfl⟩
  have toI : ∀ a q, ω a = some ((0, i), q) → rettO i j ω a = some ((1, 0), 0 :: q) := fun a q h => by unfold rettO; rw [h]; simp
  have toJ : ∀ a q, ω a = some ((0, j), q) → rettO i j ω a = some ((1, 0), 1 :: q) := fun a q h => by unfold rettO; rw [h]; simp [Ne.symm hij]
  have toK : ∀ a k q, k ≠ i → k ≠ j → ω a = some ((0, k), q) → rettO i j ω a = some ((0, k), q) := fun a k q n1 n2 h => by unfold rettO; rw [h]; simp [n1, n2]
  refine W3 (.ref p) _ (rettO i j ω) _ σ (S1.retag fwd (by simp [S.len]) (fun k d' h => ?_) (fun k w d' h => ?_) fun a k q h => ?_) g1.ex
  · by_cases k1 : j = k
    · subst k1
      rw [List.getElem?_set] at h
      split at h
      · split at h <;> cases h
      · rename_i z; exact absurd rfl z
    · rw [List.getElem?_set_ne k1] at h
      by_cases k2 : i = k
      · subst k2
        rw [List.getElem?_set] at h
        split at h
        · split at h <;> cases h
        · rename_i z; exact absurd rfl z
      · rw [List.getElem?_set_ne k2] at h
        obtain ⟨w, q1, q2⟩ := S1.slot k d' h
        exact ⟨w, q1, q2.move (Evl.Ex.refl _) fun a q ha => ⟨toK a k _ (Ne.symm k2) (Ne.symm k1) ha, rfl⟩⟩
  · cases k with
    | zero =>
      simp at h
      obtain ⟨rfl, rfl⟩ := h
      rw [Own]
      refine ⟨p, [v, u], rfl, (NT.of upd_same hob).sq, ?_⟩
      rw [Owns]
      refine ⟨v, [u], rfl, ho1.move (Evl.Ex.refl _) fun a q ha => ⟨?_, rfl⟩, ?_⟩
      · rw [List.nil_append] at ha
        exact toI a q ha
      · rw [Owns]
        refine ⟨u, [], rfl, ho2.move (Evl.Ex.refl _) fun a q ha => ⟨?_, rfl⟩, by rw [Owns]⟩
        rw [List.nil_append] at ha
        exact toJ a q ha
    | succ k => simp at h
  · cases e : ω a with
    | none => unfold rettO at h; rw [e] at h; cases h
    | some s =>
      obtain ⟨⟨t, k'⟩, q'⟩ := s
      match t with
      | 0 =>
        unfold rettO at h
        rw [e] at h
        simp only at h
        split at h
        · cases h; simp
        · split at h
          · cases h; simp
          · cases h
      | t + 1 => unfold rettO at h; rw [e] at h; cases h
def unpoO (i j : Nat) (ω : Om) : Om := fun a => match ω a with
  | some ((1, 0), 0 :: q) => some ((0, i), q)
  | some ((1, 0), 1 :: q) => some ((0, j), q)
  | some ((0, k), q) => if k = i ∨ k = j then none else some ((0, k), q)
  | _ => none
theorem s_unpo {i j : Nat} {x y : Str} {e : Expr} {n1 n2 tpos pos : Pos} {kt : Nat} {ev : Env → R TI.D} (hI : IOk I) (hN : I.N[i]? = some x) (hN' : I.N[j]? = some y) (hl : I.loc x = true) (hl' : I.loc y = true) (he : EOk I .o e ev) (hn : notComp e = true) (ht : ∀ a b c, e ≠ .Tuple a b c) :
    StOk I (.Assign [.Tuple [.Name x n1, .Name y n2] kt tpos] e pos) (fun env => (ev env).s fun d => (asPr2 d).s fun p => (gd (decide (i ≠ j))).s fun _ => .nx ((env.set i (some p.1)).set j (some p.2))) := by
  obtain ⟨t, h1, h2⟩ := he.se
  refine ⟨tAsg t (gTup I.K 2 (gCons (gName i) (gCons (gName j) gNil))), fun X hX => ?_, fun B F ω H σ env D S W => ?_⟩
  · refine ps_asg (h1 X hX.toXOk) ?_ (by rw [swapsWithSole]; exact noSwap hn) (by cases e <;> first | rfl | exact absurd rfl (ht _ _ _)) rfl
    rw [← hX.K]
    exact pg_tup hX.calm (pgs_cons (pg_of hI hN hl X hX.toXOk) (pgs_cons (pg_of hI hN' hl' X hX.toXOk) pgs_nil rfl) rfl) rfl rfl
  · refine h2.go S W fun d v F1 ω1 H1 W1 S1 g => ?_
    have S1 : Sta I.K B F1 ω1 H1 σ env ([] ++ [(v, d)]) := S1
    rw [List.nil_append] at S1
    obtain ⟨d1, d2, rfl⟩ : ∃ d1 d2, d = .pr [d1, d2] := by
      cases d with
      | pr xs =>
        match xs with
        | [] => exact W1.elim
        | [_] => exact W1.elim
        | [a, b] => exact ⟨a, b, rfl⟩
        | _ :: _ :: _ :: _ => exact W1.elim
      | _ => exact W1.elim
    have W1 : WantS I B F ((gd (decide (i ≠ j))).s fun _ => .nx ((env.set i (some d1)).set j (some d2))) D := W1
    obtain ⟨hij, W2⟩ := W1.gd
    have hij := of_decide_eq_true hij
    have ho := S1.temp 0 v _ rfl
    rw [Own] at ho
    obtain ⟨p, vs, rfl, hp, hO⟩ := ho
    rw [Owns] at hO
    obtain ⟨v1, vr, rfl, o1, hO⟩ := hO
    rw [Owns] at hO
    obtain ⟨v2, vr2, rfl, o2, hO⟩ := hO
    rw [Owns] at hO
    subst hO
    have li : i < σ.length ∨ ¬ i < σ.length := Classical.em _
    have fwd : ∀ a s, unpoO i j ω1 a = some s → ∃ s', ω1 a = some s' := fun a s h => by
      cases e : ω1 a with
      | none => unfold unpoO at h; rw [e] at h; cases h
      | some s' => exact ⟨s', rfl⟩
    have toI : ∀ a q, ω1 a = some ((1, 0), 0 :: q) → unpoO i j ω1 a = some ((0, i), q) := fun a q h => by unfold unpoO; rw [h]; rfl
    have toJ : ∀ a q, ω1 a = some ((1, 0), 1 :: q) → unpoO i j ω1 a = some ((0, j), q) := fun a q h => by unfold unpoO; rw [h]; rfl
    have toK : ∀ a k q, k ≠ i → k ≠ j → ω1 a = some ((0, k), q) → unpoO i j ω1 a = some ((0, k), q) := fun a k q n1 n2 h => by unfold unpoO; rw [h]; simp [n1, n2]
    refine ⟨p, [v1, v2], rfl, Evl.ex_t S1.ex hp, rfl, v1, [v2], rfl, v2, [], rfl, rfl, ?_⟩
    refine W2 F1 (unpoO i j ω1) H1 _ (S1.retag fwd (by simp [S1.len]) (fun k d' h => ?_) (fun k w d' h => by simp at h) fun a k q h => ?_) g.ex
    · by_cases k1 : j = k
      · subst k1
        rw [List.getElem?_set] at h
        rw [if_pos rfl] at h
        split at h
        · rename_i hlj
          obtain rfl : d2 = d' := by simpa using h
          have hlj2 : j < σ.length := by rw [← S1.len]; simpa using hlj
          refine ⟨v2, by rw [List.getElem?_set_self (by simpa using hlj2)], o2.move (Evl.Ex.refl _) fun a q ha => ⟨?_, rfl⟩⟩
          rw [List.nil_append] at ha
          rw [List.nil_append]
          exact toJ a q ha
        · cases h
      · rw [List.getElem?_set_ne k1] at h
        by_cases k2 : i = k
        · subst k2
          rw [List.getElem?_set] at h
          rw [if_pos rfl] at h
          split at h
          · rename_i hli
            obtain rfl : d1 = d' := by simpa using h
            have hli2 : i < σ.length := by rw [← S1.len]; exact hli
            refine ⟨v1, by rw [List.getElem?_set_ne k1, List.getElem?_set_self hli2], o1.move (Evl.Ex.refl _) fun a q ha => ⟨?_, rfl⟩⟩
            rw [List.nil_append] at ha
            rw [List.nil_append]
            exact toI a q ha
          · cases h
        · rw [List.getElem?_set_ne k2] at h
          obtain ⟨w, q1, q2⟩ := S1.slot k d' h
          exact ⟨w, by rw [List.getElem?_set_ne k1, List.getElem?_set_ne k2]; exact q1, q2.move (Evl.Ex.refl _) fun a q ha => ⟨toK a k _ (Ne.symm k2) (Ne.symm k1) ha, rfl⟩⟩
    · exfalso
      cases e : ω1 a with
      | none => unfold unpoO at h; rw [e] at h; cases h
      | some s =>
        unfold unpoO at h
        rw [e] at h
        split at h
        · cases h
        · cases h
        · split at h <;> cases h
        · cases h
/-! ### x.clear() -/
theorem s_clr {i : Nat} {x : Str} {npos apos cpos pos : Pos} (hN : I.N[i]? = some x) (hv : visB I.sc x = true) (hd : (x == sDbg) = false) (hcd : (x == sCd) = false) (hl : (apos.endLine == cpos.line) = true) :
    StOk I (.Expr (.Call (.Attribute (.Name x npos) "clear" apos) [] [] cpos) pos) (fun env => (ownL env i).s fun _ => .nx (env.set i (some (.lst true [])))) := by
  refine ⟨tDrop (tBM0 I.K "list" rClear (tVar i)), fun X hX => ?_, fun B F ω H σ env D S W => ?_⟩
  · refine ps_expr ?_ rfl
    rw [← hX.K]
    exact pe_bm0 PySem.F.plainAttrs_list PySem.F.slot_list_clear PySem.F.type_list_clear mt_clear (pe_var (by rw [hX.N]; exact hN) (by rw [hX.sc]; exact visB_ok hv) hd hcd) rfl hl
  · obtain ⟨xs, he, W1⟩ := WantS.ownL W
    obtain ⟨v, hσ, ho⟩ := S.slot i _ he
    obtain ⟨p, vs, rfl, hH, hω, hO⟩ := own_lst ho
    exact ⟨_, hσ, tyL hH, p, vs, rfl, rfl, hH, W1 F ω _ σ (S.wrL he hσ hω (by rw [Owns])) (Evl.Ex.refl F)⟩
end TI
set_option Elab.async false
set_option linter.all false
set_option maxRecDepth 10000
/-! TI14: the code matched with the text; soundness of all expressions. -/
namespace TI
open PySem PySem.Spec PyProof.Rows L2

section
variable (N : List Str) (nm : Nat → Option (Str × Nat)) (cs : Str → Option D)
def mVar (i : Nat) (sc : Scope) (x : Str) : Bool := decide (N[i]? = some x) && visB sc x && !(x == sDbg) && !(x == sCd)
def mTgs (loc : Str → Bool) : List Nat → List Expr → Bool
  | [], [] => true
  | i :: is, .Name x _ :: es => decide (N[i]? = some x) && loc x && mTgs loc is es
  | _, _ => false
def mTg (loc : Str → Bool) : CT → Expr → Bool
  | .one i, .Name x _ => decide (N[i]? = some x) && loc x
  | .many is, .Tuple es _ _ => mTgs N loc is es
  | _, _ => false
mutual
def mE : CE → Scope → (Str → Bool) → Expr → Bool
  | .var i, sc, _, e => match e with
    | .Name x _ => mVar N i sc x
    | _ => false
  | .gc y, sc, _, e => match e with
    | .Name x _ => (x == y) && glB sc x && !(x == sDbg) && (cs x).isSome
    | _ => false
  | .int n, _, _, e => match e with
    | .Constant (.int k) _ _ => n == k
    | _ => false
  | .bl n, _, _, e => match e with
    | .Constant (.bool k) _ _ => n == k
    | _ => false
  | .non, _, _, e => match e with
    | .Constant .none _ _ => true
    | _ => false
  | .str n, _, _, e => match e with
    | .Constant (.str k) _ _ => n == k
    | _ => false
  | .bin op a b, sc, loc, e => match e with
    | .BinOp x op' y _ => decide (op = op') && mE a sc loc x && mE b sc loc y
    | _ => false
  | .neg a, sc, loc, e => match e with
    | .UnaryOp .USub x _ => mE a sc loc x
    | _ => false
  | .cmp op a b, sc, loc, e => match e with
    | .Compare x [op'] [y] _ => decide (op = op') && notSet y && mE a sc loc x && mE b sc loc y
    | _ => false
  | .chn op op' a b c, sc, loc, e => match e with
    | .Compare x [o, o'] [y, z] _ => decide (op = o) && decide (op' = o') && notSet y && notSet z && mE a sc loc x && mE b sc loc y && mE c sc loc z
    | _ => false
  | .bo k es, sc, loc, e => match e with
    | .BoolOp op (y :: ys) _ => decide ((if k = true then BoolOp.And else .Or) = op) && mBV es sc loc (y :: ys)
    | _ => false
  | .no a, sc, loc, e => match e with
    | .UnaryOp .Not x _ => mE a sc loc x
    | _ => false
  | .ite t a b, sc, loc, e => match e with
    | .IfExp c x y _ => mT t sc loc c && mE a sc loc x && mE b sc loc y
    | _ => false
  | .ix a b, sc, loc, e => match e with
    | .Subscript x y _ => notSlice y && mE a sc loc x && mE b sc loc y
    | _ => false
  | .sl a lo hi, sc, loc, e => match e with
    | .Subscript x (.Slice l h none _) _ => mE a sc loc x && mO lo sc loc l && mO hi sc loc h
    | _ => false
  | .len a, sc, loc, e => match e with
    | .Call (.Name x _) [y] [] _ => (x == ("len" : Str)) && glB sc "len" && notStar y && mE a sc loc y
    | _ => false
  | .lst es, sc, loc, e => match e with
    | .List ys _ => mEs es sc loc ys
    | _ => false
  | .tup es, sc, loc, e => match e with
    | .Tuple ys _ _ => mEs es sc loc ys
    | _ => false
  | .call g es, sc, loc, e => match e with
    | .Call (.Name x _) (y :: ys) [] _ => decide (nm g = some (x, (y :: ys).length)) && glB sc x && !(x == sDbg) && (y :: ys).all notStar && mEs es sc loc (y :: ys)
    | _ => false
  | .bi b es, sc, loc, e => match e with
    | .Call (.Name x _) (y :: ys) [] _ => (x == biName b) && glB sc (biName b) && (y :: ys).all notStar && mEs es sc loc (y :: ys)
    | _ => false
  | .rngl a, sc, loc, e => match e with
    | .Call (.Name x _) [.Call (.Name y _) [z] [] _] [] _ => (x == ("list" : Str)) && (y == ("range" : Str)) && glB sc "list" && glB sc "range" && notStar z && mE a sc loc z
    | _ => false
  | .comp tg it hc cond elt, sc, loc, e => match e with
    | .ListComp el [⟨t, iter, ifs, as⟩] scope _ => (as == 0) && notSet iter && blkC N sc scope (ownS N tg) && mTg N (locS scope) tg t && mI it sc loc t iter &&
        (match hc, ifs with
          | false, [] => true
          | true, [c] => mT cond (relS scope sc) (locS scope) c
          | _, _ => false) && mE elt (relS scope sc) (locS scope) el
    | _ => false
  | .rev a, sc, loc, e => match e with
    | .Subscript x (.Slice none none (some (.UnaryOp .USub (.Constant (.int n) _ _) _)) _) _ => decide (n = 1) && mE a sc loc x
    | _ => false
  | .dnew t, _, _, e => match e with
    | .Dict [] [] _ => t
    | _ => false
  | .din neg a b, sc, loc, e => match e with
    | .Compare x [op] [y] _ => decide (dinOp neg = op) && notSet y && mE a sc loc x && mE b sc loc y
    | _ => false
  | .isi T a, sc, loc, e => match e with
    | .Call (.Name x _) [y, .Name z _] [] _ => (x == ("isinstance" : Str)) && (z == (tyN T : Str)) && glB sc "isinstance" && glB sc (tyN T) && notStar y && mE a sc loc y
    | _ => false
  | .lset a, sc, loc, e => match e with
    | .Call (.Name x _) [.Call (.Name z _) [y] [] _] [] _ => (x == ("len" : Str)) && (z == ("set" : Str)) && glB sc "len" && glB sc "set" && notStar y && mE a sc loc y
    | _ => false
  | .tcount a b, sc, loc, e => match e with
    | .Call (.Attribute (.Name x p) z apos) [y] [] cpos => (z == ("count" : Str)) && (apos.endLine == cpos.line) && notStar y && mE a sc loc (.Name x p) && mE b sc loc y
    | _ => false
  | .lidx _ _, _, _, _ => false
  | .callb g es, sc, loc, e => match e with
    | .Call (.Name x _) (y :: ys) [] _ => decide (nm g = some (x, (y :: ys).length)) && glB sc x && !(x == sDbg) && (y :: ys).all notStar && mEb es sc loc (y :: ys)
    | _ => false
  | .listb a, sc, loc, e => match e with
    | .Call (.Name x _) [y] [] _ => (x == ("list" : Str)) && glB sc "list" && notStar y && mE a sc loc y
    | _ => false
  | .isb neg a, sc, loc, e => match e with
    | .Compare x [op] [.Constant .none _ _] _ => decide (isOp neg = op) && mE a sc loc x
    | _ => false
def mEb : CEs → Scope → (Str → Bool) → List Expr → Bool
  | .nil, _, _, ys => match ys with
    | [] => true
    | _ => false
  | .cons c es, sc, loc, ys => match ys with
    | y :: ys => notStar y && mE c sc loc y && mEb es sc loc ys
    | [] => false
def mEs : CEs → Scope → (Str → Bool) → List Expr → Bool
  | .nil, _, _, ys => match ys with
    | [] => true
    | _ => false
  | .cons c es, sc, loc, ys => match ys with
    | y :: ys => notStar y && mE c sc loc y && mEs es sc loc ys
    | [] => false
def mBV : CEs → Scope → (Str → Bool) → List Expr → Bool
  | .nil, _, _, _ => false
  | .cons c es, sc, loc, ys => match es, ys with
    | .nil, [y] => mE c sc loc y
    | .cons c' es', y :: z :: zs => mE c sc loc y && mBV (.cons c' es') sc loc (z :: zs)
    | _, _ => false
def mO : CO → Scope → (Str → Bool) → Option Expr → Bool
  | .none, _, _, e => match e with
    | none => true
    | _ => false
  | .some c, sc, loc, e => match e with
    | some e => mE c sc loc e
    | _ => false
def mT : CB → Scope → (Str → Bool) → Expr → Bool
  | .val c, sc, loc, e => !isTest e && mE c sc loc e
  | .no t, sc, loc, e => match e with
    | .UnaryOp .Not x _ => mT t sc loc x
    | _ => false
  | .bo k ts, sc, loc, e => match e with
    | .BoolOp op (y :: ys) _ => decide ((if k = true then BoolOp.And else .Or) = op) && mTs ts sc loc (y :: ys)
    | _ => false
def mTs : CBs → Scope → (Str → Bool) → List Expr → Bool
  | .nil, _, _, _ => false
  | .cons c es, sc, loc, ys => match es, ys with
    | .nil, [y] => mT c sc loc y
    | .cons c' es', y :: z :: zs => mT c sc loc y && mTs (.cons c' es') sc loc (z :: zs)
    | _, _ => false
def mI : CI → Scope → (Str → Bool) → Expr → Expr → Bool
  | .ex c, sc, loc, _, e => mE c sc loc e
  | .rng1 a, sc, loc, _, e => match e with
    | .Call (.Name x _) [y] [] _ => (x == ("range" : Str)) && glB sc "range" && notStar y && mE a sc loc y
    | _ => false
  | .rng2 a b, sc, loc, _, e => match e with
    | .Call (.Name x _) [y, z] [] _ => (x == ("range" : Str)) && glB sc "range" && notStar y && notStar z && mE a sc loc y && mE b sc loc z
    | _ => false
  | .enum a, sc, loc, t, e => match t, e with
    | .Tuple _ _ _, .Call (.Name x _) [y] [] _ => (x == ("enumerate" : Str)) && glB sc "enumerate" && notStar y && mE a sc loc y
    | _, _ => false
  | .zip a b, sc, loc, t, e => match t, e with
    | .Tuple _ _ _, .Call (.Name x _) [y, z] [] _ => (x == ("zip" : Str)) && glB sc "zip" && notStar y && notStar z && mE a sc loc y && mE b sc loc z
    | _, _ => false
end
end

variable {I : Info} {m : M}
theorem SE.up {t : TE} {ev : Env → R D} (h : SE I .f t ev) : SE I m t ev := fun B F ω H σ env T Q S W =>
  h B F ω H σ env T Q S (W.mono (fun d k v F' ω' H' R g => k v F' ω' H' (Res.of R.1 R.2) g) fun x h => h)
theorem EOk.up {e : Expr} {ev : Env → R D} (h : EOk I .f e ev) : EOk I m e ev := by
  obtain ⟨t, h1, h2⟩ := h
  exact ⟨t, h1, SE.up h2⟩
theorem bind_ok (r : R D) : (r >>= R.ok) = r := by cases r <;> rfl
theorem tgs_ok (hI : IOk I) : ∀ {is : List Nat} {es : List Expr}, mTgs I.N I.loc is es = true → GsOk I es is ∧ es.all notStar = true
  | [], [], _ => ⟨gs_nil, rfl⟩
  | [], _ :: _, h => by simp [mTgs] at h
  | _ :: _, [], h => by simp [mTgs] at h
  | i :: is, e :: es, h => by
    cases e with
    | Name x pos =>
      simp only [mTgs, Bool.and_eq_true, decide_eq_true_eq] at h
      obtain ⟨g, n⟩ := tgs_ok hI h.2
      exact ⟨gs_cons hI h.1.1 h.1.2 g, by rw [List.all_cons, n]; rfl⟩
    | _ => simp [mTgs] at h
theorem tg_ok (hI : IOk I) {ct : CT} {e : Expr} (h : mTg I.N I.loc ct e = true) : GOk I e ct := by
  cases ct with
  | one i =>
    cases e with
    | Name x pos =>
      simp only [mTg, Bool.and_eq_true, decide_eq_true_eq] at h
      exact g_one hI h.1 h.2
    | _ => simp [mTg] at h
  | many is =>
    cases e with
    | Tuple es j pos =>
      simp only [mTg] at h
      obtain ⟨g, n⟩ := tgs_ok hI h
      exact g_many g n
    | _ => simp [mTg] at h
theorem beq_str {x y : Str} (h : (x == y) = true) : x = y := eq_of_beq h
theorem mVar_ok {i : Nat} {sc : Scope} {x : Str} {N : List Str} (h : mVar N i sc x = true) : N[i]? = some x ∧ visB sc x = true ∧ (x == sDbg) = false ∧ (x == sCd) = false := by
  simp only [mVar, Bool.and_eq_true, decide_eq_true_eq, Bool.not_eq_true'] at h
  exact ⟨h.1.1.1, h.1.1.2, h.1.2, h.2⟩
mutual
theorem sE : ∀ (c : CE) (I : Info) (m : M) (e : Expr), IOk I → mE I.N I.nm I.cst c I.sc I.loc e = true → EOk I m e (evX I.Φ I.cst m c)
  | .var i, I, m, e, hI, h => by
    unfold mE at h
    try dsimp only at h
    split at h
    · obtain ⟨h1, h2, h3, h4⟩ := mVar_ok h
      exact e_var h1 h2 h3 h4
    · cases h
  | .gc y, I, m, e, hI, h => by
    unfold mE at h
    try dsimp only at h
    split at h
    · simp only [Bool.and_eq_true, Bool.not_eq_true'] at h
      obtain ⟨⟨⟨h1, h2⟩, h3⟩, h4⟩ := h
      obtain rfl := beq_str h1
      exact e_gc hI h2 h3 h4
    · cases h
  | .int n, I, m, e, hI, h => by
    unfold mE at h
    try dsimp only at h
    split at h
    · obtain rfl := eq_of_beq h
      exact e_int
    · cases h
  | .bl n, I, m, e, hI, h => by
    unfold mE at h
    try dsimp only at h
    split at h
    · obtain rfl := eq_of_beq h
      exact e_bl
    · cases h
  | .non, I, m, e, hI, h => by
    unfold mE at h
    try dsimp only at h
    split at h
    · exact e_non
    · cases h
  | .str n, I, m, e, hI, h => by
    unfold mE at h
    try dsimp only at h
    split at h
    · obtain rfl := eq_of_beq h
      exact e_str
    · cases h
  | .bin op a b, I, m, e, hI, h => by
    unfold mE at h
    try dsimp only at h
    split at h
    · simp only [Bool.and_eq_true, decide_eq_true_eq] at h
      obtain ⟨⟨rfl, h1⟩, h2⟩ := h
      exact e_bin (sE a I .f _ hI h1) (sE b I .f _ hI h2)
    · cases h
  | .neg a, I, m, e, hI, h => by
    unfold mE at h
    try dsimp only at h
    split at h
    · exact e_neg (sE a I .f _ hI h)
    · cases h
  | .cmp op a b, I, m, e, hI, h => by
    unfold mE at h
    try dsimp only at h
    split at h
    · simp only [Bool.and_eq_true, decide_eq_true_eq] at h
      obtain ⟨⟨⟨rfl, h0⟩, h1⟩, h2⟩ := h
      exact e_cmp (sE a I .f _ hI h1) (sE b I .b _ hI h2) h0
    · cases h
  | .chn op op' a b c, I, m, e, hI, h => by
    unfold mE at h
    try dsimp only at h
    split at h
    · simp only [Bool.and_eq_true, decide_eq_true_eq] at h
      obtain ⟨⟨⟨⟨⟨⟨rfl, rfl⟩, h0⟩, h00⟩, h1⟩, h2⟩, h3⟩ := h
      exact e_chn (sE a I .f _ hI h1) (sE b I .f _ hI h2) (sE c I .f _ hI h3) h0 h00
    · cases h
  | .bo k es, I, m, e, hI, h => by
    unfold mE at h
    try dsimp only at h
    split at h
    · simp only [Bool.and_eq_true, decide_eq_true_eq] at h
      obtain ⟨rfl, h1⟩ := h
      exact (e_bo (sBV es k I _ hI h1)).up
    · cases h
  | .no a, I, m, e, hI, h => by
    unfold mE at h
    try dsimp only at h
    split at h
    · exact e_no (sE a I .f _ hI h)
    · cases h
  | .ite t a b, I, m, e, hI, h => by
    unfold mE at h
    try dsimp only at h
    split at h
    · simp only [Bool.and_eq_true] at h
      obtain ⟨⟨h0, h1⟩, h2⟩ := h
      exact (e_ite (sT t I _ hI h0) (sE a I .f _ hI h1) (sE b I .f _ hI h2)).up
    · cases h
  | .ix a b, I, m, e, hI, h => by
    unfold mE at h
    try dsimp only at h
    split at h
    · simp only [Bool.and_eq_true] at h
      obtain ⟨⟨h0, h1⟩, h2⟩ := h
      exact e_ix (sE a I .b _ hI h1) (sE b I .f _ hI h2) h0
    · cases h
  | .sl a lo hi, I, m, e, hI, h => by
    unfold mE at h
    try dsimp only at h
    split at h
    · simp only [Bool.and_eq_true] at h
      obtain ⟨⟨h0, h1⟩, h2⟩ := h
      exact e_sl (sE a I .b _ hI h0) (sO lo I _ hI h1) (sO hi I _ hI h2)
    · cases h
  | .len a, I, m, e, hI, h => by
    unfold mE at h
    try dsimp only at h
    split at h
    · simp only [Bool.and_eq_true] at h
      obtain ⟨⟨⟨h0, h1⟩, h2⟩, h3⟩ := h
      obtain rfl := beq_str h0
      exact e_len hI h1 (sE a I .b _ hI h3) h2
    · cases h
  | .lst es, I, m, e, hI, h => by
    unfold mE at h
    try dsimp only at h
    split at h
    · exact e_lst (sEs es I _ hI h)
    · cases h
  | .tup es, I, m, e, hI, h => by
    unfold mE at h
    try dsimp only at h
    split at h
    · exact e_tup (sEs es I _ hI h)
    · cases h
  | .call g es, I, m, e, hI, h => by
    unfold mE at h
    try dsimp only at h
    split at h
    · simp only [Bool.and_eq_true, decide_eq_true_eq, Bool.not_eq_true'] at h
      obtain ⟨⟨⟨⟨h0, h1⟩, h2⟩, h3⟩, h4⟩ := h
      rw [List.all_cons, Bool.and_eq_true] at h3
      exact e_call hI h0 h1 h2 rfl (sEs es I _ hI h4) h3.1 h3.2
    · cases h
  | .bi b es, I, m, e, hI, h => by
    unfold mE at h
    try dsimp only at h
    split at h
    · simp only [Bool.and_eq_true] at h
      obtain ⟨⟨⟨h0, h1⟩, h2⟩, h3⟩ := h
      obtain rfl := beq_str h0
      exact e_bi hI h1 (sEs es I _ hI h3) h2
    · cases h
  | .rngl a, I, m, e, hI, h => by
    unfold mE at h
    try dsimp only at h
    split at h
    · simp only [Bool.and_eq_true] at h
      obtain ⟨⟨⟨⟨⟨h0, h1⟩, h2⟩, h3⟩, h4⟩, h5⟩ := h
      obtain rfl := beq_str h0
      obtain rfl := beq_str h1
      exact e_rngl hI h2 h3 (sE a I .f _ hI h5) h4
    · cases h
  | .comp tg it hc cond elt, I, m, e, hI, h => by
    unfold mE at h
    try dsimp only at h
    split at h
    · rename_i el t iter ifs as scope pos
      simp only [Bool.and_eq_true] at h
      obtain ⟨⟨⟨⟨⟨⟨h0, h1⟩, h2⟩, h3⟩, h4⟩, h5⟩, h6⟩ := h
      obtain rfl := eq_of_beq h0
      refine e_comp (evc := fun env1 => if hc = true then evT I.Φ I.cst cond env1 else R.ok true) hI h1 h2 (sI it I t _ hI h4) (tg_ok (hI.blk scope) h3) ?_ (sE elt (blkI I scope) (em m) _ (hI.blk scope) h6)
      cases hc with
      | false =>
        cases ifs with
        | nil => exact c_none
        | cons a l => cases h5
      | true =>
        cases ifs with
        | nil => cases h5
        | cons a l =>
          cases l with
          | nil => exact c_one (sT cond (blkI I scope) _ (hI.blk scope) h5)
          | cons b l => cases h5
    · cases h
  | .rev a, I, m, e, hI, h => by
    unfold mE at h
    try dsimp only at h
    split at h
    · simp only [Bool.and_eq_true, decide_eq_true_eq] at h
      obtain ⟨rfl, h1⟩ := h
      exact e_rev (sE a I .f _ hI h1)
    · cases h
  | .dnew t, I, m, e, hI, h => by
    unfold mE at h
    try dsimp only at h
    split at h
    · subst h
      exact e_dnew
    · cases h
  | .din neg a b, I, m, e, hI, h => by
    unfold mE at h
    try dsimp only at h
    split at h
    · simp only [Bool.and_eq_true, decide_eq_true_eq] at h
      obtain ⟨⟨⟨rfl, h0⟩, h1⟩, h2⟩ := h
      exact e_din (sE a I .f _ hI h1) (sE b I .b _ hI h2) h0
    · cases h
  | .isi T a, I, m, e, hI, h => by
    unfold mE at h
    try dsimp only at h
    split at h
    · simp only [Bool.and_eq_true] at h
      obtain ⟨⟨⟨⟨⟨h0, h1⟩, h2⟩, h3⟩, h4⟩, h5⟩ := h
      obtain rfl := beq_str h0
      obtain rfl := beq_str h1
      exact e_isi hI h2 h3 (sE a I .f _ hI h5) h4
    · cases h
  | .lset a, I, m, e, hI, h => by
    unfold mE at h
    try dsimp only at h
    split at h
    · simp only [Bool.and_eq_true] at h
      obtain ⟨⟨⟨⟨⟨h0, h1⟩, h2⟩, h3⟩, h4⟩, h5⟩ := h
      obtain rfl := beq_str h0
      obtain rfl := beq_str h1
      exact e_lset hI h2 h3 (sE a I .f _ hI h5) h4
    · cases h
  | .tcount a b, I, m, e, hI, h => by
    unfold mE at h
    try dsimp only at h
    split at h
    · simp only [Bool.and_eq_true] at h
      obtain ⟨⟨⟨⟨h0, h1⟩, h2⟩, h3⟩, h4⟩ := h
      obtain rfl := beq_str h0
      exact e_tcount (sE a I .f _ hI h3) (sE b I .f _ hI h4) h2 (fun env => rfl) h1
    · cases h
  | .lidx a _, I, m, e, hI, h => by unfold mE at h; cases h
  | .callb g es, I, m, e, hI, h => by
    unfold mE at h
    try dsimp only at h
    split at h
    · simp only [Bool.and_eq_true, decide_eq_true_eq, Bool.not_eq_true'] at h
      obtain ⟨⟨⟨⟨h0, h1⟩, h2⟩, h3⟩, h4⟩ := h
      rw [List.all_cons, Bool.and_eq_true] at h3
      exact e_callb hI h0 h1 h2 rfl (sEb es I _ hI h4) h3.1 h3.2
    · cases h
  | .listb a, I, m, e, hI, h => by
    unfold mE at h
    try dsimp only at h
    split at h
    · simp only [Bool.and_eq_true] at h
      obtain ⟨⟨⟨h0, h1⟩, h2⟩, h3⟩ := h
      obtain rfl := beq_str h0
      exact e_listb hI h1 (sE a I .b _ hI h3) h2
    · cases h
  | .isb neg a, I, m, e, hI, h => by
    unfold mE at h
    try dsimp only at h
    split at h
    · simp only [Bool.and_eq_true, decide_eq_true_eq] at h
      obtain ⟨rfl, h1⟩ := h
      exact e_isb (sE a I .b _ hI h1)
    · cases h
theorem sEb : ∀ (c : CEs) (I : Info) (es : List Expr), IOk I → mEb I.N I.nm I.cst c I.sc I.loc es = true → EbOk I es (evb I.Φ I.cst c)
  | .nil, I, es, hI, h => by
    unfold mEb at h
    try dsimp only at h
    split at h
    · exact eb_nil
    · cases h
  | .cons c cs, I, es, hI, h => by
    unfold mEb at h
    try dsimp only at h
    split at h
    · simp only [Bool.and_eq_true] at h
      obtain ⟨⟨h0, h1⟩, h2⟩ := h
      exact eb_cons (sE c I .b _ hI h1) (sEb cs I _ hI h2) h0
    · cases h
theorem sEs : ∀ (c : CEs) (I : Info) (es : List Expr), IOk I → mEs I.N I.nm I.cst c I.sc I.loc es = true → EsOk I es (evs I.Φ I.cst c)
  | .nil, I, es, hI, h => by
    unfold mEs at h
    try dsimp only at h
    split at h
    · exact es_nil
    · cases h
  | .cons c cs, I, es, hI, h => by
    unfold mEs at h
    try dsimp only at h
    split at h
    · simp only [Bool.and_eq_true] at h
      obtain ⟨⟨h0, h1⟩, h2⟩ := h
      exact es_cons (sE c I .f _ hI h1) (sEs cs I _ hI h2) h0
    · cases h
theorem sBV : ∀ (c : CEs) (k : Bool) (I : Info) (es : List Expr), IOk I → mBV I.N I.nm I.cst c I.sc I.loc es = true → BVOk I .f k es (evBV I.Φ I.cst k c)
  | .nil, k, I, es, hI, h => by unfold mBV at h; cases h
  | .cons c .nil, k, I, es, hI, h => by
    unfold mBV at h
    try dsimp only at h
    split at h
    · have e : evBV I.Φ I.cst k (.cons c .nil) = evX I.Φ I.cst .f c := by
        funext env
        exact bind_ok _
      rw [e]
      exact bv_one (sE c I .f _ hI h)
    · rename_i q; cases q
    · cases h
  | .cons c (.cons c' cs), k, I, es, hI, h => by
    unfold mBV at h
    try dsimp only at h
    split at h
    · rename_i q; cases q
    · rename_i q
      cases q
      simp only [Bool.and_eq_true] at h
      have e : evBV I.Φ I.cst k (.cons c (.cons c' cs)) = fun env => (do let x ← evX I.Φ I.cst .f c env; let b ← isBl x; if b = k then evBV I.Φ I.cst k (.cons c' cs) env else .ok (.bl b)) := rfl
      rw [e]
      exact bv_cons (sE c I .f _ hI h.1) (sBV (.cons c' cs) k I _ hI h.2)
    · cases h
theorem sO : ∀ (c : CO) (I : Info) (e : Option Expr), IOk I → mO I.N I.nm I.cst c I.sc I.loc e = true → OOk I e (evO I.Φ I.cst c)
  | .none, I, e, hI, h => by
    unfold mO at h
    try dsimp only at h
    split at h
    · exact o_none
    · cases h
  | .some c, I, e, hI, h => by
    unfold mO at h
    try dsimp only at h
    split at h
    · exact o_some (sE c I .f _ hI h)
    · cases h
theorem sT : ∀ (c : CB) (I : Info) (e : Expr), IOk I → mT I.N I.nm I.cst c I.sc I.loc e = true → TOk I e (evT I.Φ I.cst c)
  | .val c, I, e, hI, h => by
    unfold mT at h
    try dsimp only at h
    simp only [Bool.and_eq_true, Bool.not_eq_true'] at h
    exact t_val (sE c I .f _ hI h.2) h.1
  | .no t, I, e, hI, h => by
    unfold mT at h
    try dsimp only at h
    split at h
    · exact t_no (sT t I _ hI h)
    · cases h
  | .bo k ts, I, e, hI, h => by
    unfold mT at h
    try dsimp only at h
    split at h
    · simp only [Bool.and_eq_true, decide_eq_true_eq] at h
      obtain ⟨rfl, h1⟩ := h
      exact t_bo (sTs ts k I _ hI h1)
    · cases h
theorem sTs : ∀ (c : CBs) (k : Bool) (I : Info) (es : List Expr), IOk I → mTs I.N I.nm I.cst c I.sc I.loc es = true → TsOk I k es (evTs I.Φ I.cst k c)
  | .nil, k, I, es, hI, h => by unfold mTs at h; cases h
  | .cons c .nil, k, I, es, hI, h => by
    unfold mTs at h
    try dsimp only at h
    split at h
    · have e : evTs I.Φ I.cst k (.cons c .nil) = fun env => (do let b ← evT I.Φ I.cst c env; if b = k then .ok k else .ok b) := rfl
      rw [e]
      exact ts_one (sT c I _ hI h)
    · rename_i q; cases q
    · cases h
  | .cons c (.cons c' cs), k, I, es, hI, h => by
    unfold mTs at h
    try dsimp only at h
    split at h
    · rename_i q; cases q
    · rename_i q
      cases q
      simp only [Bool.and_eq_true] at h
      have e : evTs I.Φ I.cst k (.cons c (.cons c' cs)) = fun env => (do let b ← evT I.Φ I.cst c env; if b = k then evTs I.Φ I.cst k (.cons c' cs) env else .ok b) := rfl
      rw [e]
      exact ts_cons (sT c I _ hI h.1) (sTs (.cons c' cs) k I _ hI h.2)
    · cases h
theorem sI : ∀ (c : CI) (I : Info) (t e : Expr), IOk I → mI I.N I.nm I.cst c I.sc I.loc t e = true → WOk I t e (evI I.Φ I.cst c)
  | .ex c, I, t, e, hI, h => by
    unfold mI at h
    try dsimp only at h
    exact w_ex (sE c I .f _ hI h)
  | .rng1 a, I, t, e, hI, h => by
    unfold mI at h
    try dsimp only at h
    split at h
    · simp only [Bool.and_eq_true] at h
      obtain ⟨⟨⟨h0, h1⟩, h2⟩, h3⟩ := h
      obtain rfl := beq_str h0
      exact w_rng1 hI h1 (sE a I .f _ hI h3) h2
    · cases h
  | .rng2 a b, I, t, e, hI, h => by
    unfold mI at h
    try dsimp only at h
    split at h
    · simp only [Bool.and_eq_true] at h
      obtain ⟨⟨⟨⟨⟨h0, h1⟩, h2⟩, h3⟩, h4⟩, h5⟩ := h
      obtain rfl := beq_str h0
      exact w_rng2 hI h1 (sE a I .f _ hI h4) (sE b I .f _ hI h5) h2 h3
    · cases h
  | .enum a, I, t, e, hI, h => by
    unfold mI at h
    try dsimp only at h
    split at h
    · simp only [Bool.and_eq_true] at h
      obtain ⟨⟨⟨h0, h1⟩, h2⟩, h3⟩ := h
      obtain rfl := beq_str h0
      exact w_enum hI h1 (sE a I .f _ hI h3) h2
    · cases h
  | .zip a b, I, t, e, hI, h => by
    unfold mI at h
    try dsimp only at h
    split at h
    · simp only [Bool.and_eq_true] at h
      obtain ⟨⟨⟨⟨⟨h0, h1⟩, h2⟩, h3⟩, h4⟩, h5⟩ := h
      obtain rfl := beq_str h0
      exact w_zip hI h1 (sE a I .f _ hI h4) (sE b I .f _ hI h5) h2 h3
    · cases h
end
end TI
set_option Elab.async false
set_option linter.all false
set_option maxRecDepth 10000
/-! TI15: statements matched with the text; a def keeps its function. -/
namespace TI
open PySem PySem.Spec PyProof.Rows L2

def swB (sc scope : Scope) (y : Str) (py pos : Pos) : Bool := decide (sc.kind = .function) && decide (sc.names.lookup y = some .local) && (py.line == pos.line) && !(scope.names.any fun (n, k) => n == y && (k == .local || k == .cell))
theorem sw_eq {elt : Expr} {gs : List Comprehension} {scope : Scope} {pos py : Pos} {y : Str} {l : Nat} {env : PySem.Env} :
    swapsWith (.ListComp elt gs scope pos) (some (.Name y py)) l env = pure (env.blockKind == .function && env.kindOf y == some .local && py.line == pos.line && !(scope.names.any fun (n, k) => n == y && (k == .local || k == .cell))) := by
  unfold swapsWith
  rfl
theorem sw_no {elt : Expr} {gs : List Comprehension} {scope : Scope} {pos py : Pos} {y : Str} {l : Nat} {env : PySem.Env} (hk : env.scope.kind = .function) (h : swB env.scope scope y py pos = false) :
    swapsWith (.ListComp elt gs scope pos) (some (.Name y py)) l env = pure false := by
  rw [sw_eq]
  congr 1
  unfold swB at h
  rw [hk, decide_eq_true rfl, Bool.true_and] at h
  have hb : env.blockKind = .function := by unfold Env.blockKind; rw [hk]; rfl
  rw [hb]
  by_cases e : env.scope.names.lookup y = some .local
  · rw [decide_eq_true e, Bool.true_and] at h
    have : (env.kindOf y == some NameKind.local) = true := by
      show (env.scope.names.lookup y == _) = true
      rw [e]; rfl
    rw [this]
    simpa using h
  · have : (env.kindOf y == some NameKind.local) = false := by
      show (env.scope.names.lookup y == _) = false
      simpa using e
    rw [this]; rfl

section
variable {I : Info} {m : M}
theorem s_setLc {i : Nat} {y : Str} {py pos spos : Pos} {tg iter elt : Expr} {ifs : List Expr} {scope : Scope} {ct : CT} {evi : Env → R (List D)} {evc : Env → R Bool} {eve : Env → R D} (hI : IOk I) (hm : m ≠ .b) (hN : I.N[i]? = some y) (hl : I.loc y = true)
    (hsw : swB I.sc scope y py pos = true) (hn : notSet iter = true) (hb : blkC I.N I.sc scope (ownS I.N ct) = true)
    (hw : WOk I tg iter evi) (hg : GOk (blkI I scope) tg ct) (hc : CdOk (blkI I scope) ifs evc) (he : EOk (blkI I scope) (em m) elt eve) :
    StOk I (.Assign [.Name y py] (.ListComp elt [⟨tg, iter, ifs, 0⟩] scope pos) spos) (fun env => (do let xs ← evi env; let ds ← compL (compF ct evc eve env) xs; compR (m == .o) ds : R D).s fun d => .nx (env.set i (some d))) := by
  obtain ⟨wi, w1, w2⟩ := hw
  obtain ⟨g, g1, g2⟩ := hg
  obtain ⟨tt, c1, c2⟩ := hc
  obtain ⟨te, e1, e2⟩ := he.se
  have hsw' := hsw
  unfold swB at hsw
  simp only [Bool.and_eq_true, decide_eq_true_eq, Bool.not_eq_true'] at hsw
  obtain ⟨⟨⟨k1, k2⟩, k3⟩, k4⟩ := hsw
  refine ⟨tAsg (tLc wi g tt te (slotsT ct)) (gName i), fun X hX => ?_, fun B F ω H σ env D S W => ?_⟩
  · have hX' := hX.toXOk
    have h := ps_setLc (X := X) (own := ownS I.N ct) (g := g) (tt := tt) (te := te) (pos := pos) (elt := elt) (ifs := ifs) (spos := spos) (py := py) hX.calm (by rw [hX.N]; exact hI.nd) (by rw [hX.N]; exact hN) (by rw [hX.sc]; exact k2)
      (sw_true (by rw [hX.sc]; exact k1) (by rw [hX.sc]; exact k2) k3 k4) (w1 X hX') (by rw [hX.N, hX.sc]; exact blkOk_by hb)
      (fun s H C cl fp => g1 _ (hX'.blk hI scope s H C cl fp)) (fun s H C cl fp => c1 _ (hX'.blk hI scope s H C cl fp)) (fun s H C cl fp => e1 _ (hX'.blk hI scope s H C cl fp)) (foldSet hn)
    rw [ownS_snd] at h
    exact h
  · refine (comp_se (m := m) (scope := scope) w2 g2 c2 e2).go S W fun d v F' ω' H' W1 R g => ?_
    obtain ⟨ω2, S2⟩ := R.store (i := i) hm
    exact W1 F' ω2 H' _ S2 g.ex
end

section
variable (N : List Str) (nm : Nat → Option (Str × Nat)) (cs : Str → Option D)
def lcB (sc : Scope) : Expr → Bool
  | .ListComp _ _ _ _ => decide (sc.kind = .function)
  | _ => false
def notTup : Expr → Bool
  | .Tuple .. => false
  | _ => true
mutual
def mS : CS → Scope → (Str → Bool) → Stmt → Bool
  | .set i m c, sc, loc, st => match st with
    | .Assign [.Name x px] v _ => decide (N[i]? = some x) && loc x && decide (m ≠ .b) && mE N nm cs c sc loc v && (notComp v || lcB sc v)
    | _ => false
  | .par i j a b, sc, loc, st => match st with
    | .Assign [.Tuple [.Name x px, .Name y py] _ _] (.Tuple [u, v] _ _) _ => decide (N[i]? = some x) && decide (N[j]? = some y) && loc x && loc y && decide (i ≠ j) && par2B sc x y px py u v && mE N nm cs a sc loc u && mE N nm cs b sc loc v
    | _ => false
  | .par3 i j l a b c, sc, loc, st => match st with
    | .Assign [.Tuple [.Name x px, .Name y py, .Name z pz] _ _] (.Tuple [u, v, w] _ _) _ => decide (N[i]? = some x) && decide (N[j]? = some y) && decide (N[l]? = some z) && decide (i ≠ j) && decide (i ≠ l) && decide (j ≠ l) && par3B sc x y z px py pz u v w &&
      mE N nm cs a sc loc u && mE N nm cs b sc loc v && mE N nm cs c sc loc w
    | _ => false
  | .parc i j a b, sc, loc, st => match st with
    | .Assign [.Tuple [.Name x px, .Name y py] _ _] (.Tuple [u, v] _ _) _ => decide (N[i]? = some x) && decide (N[j]? = some y) && loc x && loc y && [u, v].all (foldedForSure 8) && notStar u && notStar v && mEs N nm cs (.cons a (.cons b .nil)) sc loc [u, v]
    | _ => false
  | .rett i j, sc, loc, st => match st with
    | .Return (some (.Tuple [.Name x _, .Name y _] _ _)) _ => mVar N i sc x && mVar N j sc y
    | _ => false
  | .unpo i j c, sc, loc, st => match st with
    | .Assign [.Tuple [.Name x _, .Name y _] _ _] v _ => decide (N[i]? = some x) && decide (N[j]? = some y) && loc x && loc y && notComp v && notTup v && mE N nm cs c sc loc v
    | _ => false
  | .clr i, sc, _, st => match st with
    | .Expr (.Call (.Attribute (.Name x _) a apos) [] [] cpos) _ => (a == ("clear" : Str)) && mVar N i sc x && (apos.endLine == cpos.line)
    | _ => false
  | .unp is c, sc, loc, st => match st with
    | .Assign [.Tuple es _ _] v _ => mTgs N loc is es && notComp v && notTup v && mE N nm cs c sc loc v
    | _ => false
  | .app i c, sc, loc, st => match st with
    | .Expr (.Call (.Attribute (.Name x _) a apos) [v] [] cpos) _ => (a == ("append" : Str)) && mVar N i sc x && (apos.endLine == cpos.line) && notStar v && mE N nm cs c sc loc v
    | _ => false
  | .appAt i k c, sc, loc, st => match st with
    | .Expr (.Call (.Attribute w a apos) [v] [] cpos) _ => (a == ("append" : Str)) && (apos.endLine == cpos.line) && notStar v && mE N nm cs c sc loc v &&
      (match w with
        | .Subscript (.Name x _) u _ => mVar N i sc x && notSlice u && mE N nm cs k sc loc u
        | _ => false)
    | _ => false
  | .appPop i j k, sc, loc, st => match st with
    | .Expr (.Call (.Attribute (.Name x _) a apos) [w] [] cpos) _ => (a == ("append" : Str)) && mVar N i sc x && (apos.endLine == cpos.line) &&
      (match w with
        | .Call (.Attribute (.Name y _) b apos2) [v] [] cpos2 => (b == ("pop" : Str)) && mVar N j sc y && (apos2.endLine == cpos2.line) && notStar v && mE N nm cs k sc loc v
        | _ => false)
    | _ => false
  | .ext i c, sc, loc, st => match st with
    | .Expr (.Call (.Attribute (.Name x _) a apos) [v] [] cpos) _ => (a == ("extend" : Str)) && mVar N i sc x && (apos.endLine == cpos.line) && notStar v && mE N nm cs c sc loc v
    | _ => false
  | .setIx i k c, sc, loc, st => match st with
    | .Assign [.Subscript (.Name x _) u _] v _ => mVar N i sc x && notSlice u && notComp v && mE N nm cs c sc loc v && mE N nm cs k sc loc u
    | _ => false
  | .dput i k c, sc, loc, st => match st with
    | .Assign [.Subscript (.Name x _) u _] v _ => mVar N i sc x && notComp v && mE N nm cs c sc loc v && mE N nm cs k sc loc u
    | _ => false
  | .setIx2 i j k c, sc, loc, st => match st with
    | .Assign [.Subscript z u _] v _ => notSlice u && notComp v && mE N nm cs c sc loc v && mE N nm cs k sc loc u &&
      (match z with
        | .Subscript (.Name x _) w _ => mVar N i sc x && notSlice w && mE N nm cs j sc loc w
        | _ => false)
    | _ => false
  | .ifs c a b, sc, loc, st => match st with
    | .If t u v _ => mT N nm cs c sc loc t && mSs a sc loc u && mSs b sc loc v
    | _ => false
  | .fors ct it _ body, sc, loc, st => match st with
    | .For tg iter b [] _ => notSet iter && mTg N loc ct tg && mI N nm cs it sc loc tg iter && mSs body sc loc b
    | _ => false
  | .whil c _ body, sc, loc, st => match st with
    | .While t b [] _ => mT N nm cs c sc loc t && mSs body sc loc b
    | _ => false
  | .ret c, sc, loc, st => match st with
    | .Return (some v) _ => mE N nm cs c sc loc v
    | _ => false
  | .retv i, sc, loc, st => match st with
    | .Return (some (.Name x _)) _ => mVar N i sc x
    | _ => false
  | .exp c, sc, loc, st => match st with
    | .Expr v _ => notComp v && mE N nm cs c sc loc v
    | _ => false
  | .bad, _, _, _ => true
  | .frz _, _, _, _ => false
def mSs : CSs → Scope → (Str → Bool) → List Stmt → Bool
  | .nil, _, _, sts => match sts with
    | [] => true
    | _ => false
  | .cons s ss, sc, loc, sts => match s with
    | .frz _ => mSs ss sc loc sts
    | s => match sts with
      | st :: sts => mS s sc loc st && mSs ss sc loc sts
      | [] => false
end
end

variable {I : Info} {m : M}
theorem comp_pieces {tg : CT} {it : CI} {hc : Bool} {cond : CB} {elt : CE} {e : Expr} (hI : IOk I) (h : mE I.N I.nm I.cst (.comp tg it hc cond elt) I.sc I.loc e = true) :
    ∃ el t iter ifs scope pos, e = .ListComp el [⟨t, iter, ifs, 0⟩] scope pos ∧ notSet iter = true ∧ blkC I.N I.sc scope (ownS I.N tg) = true ∧ WOk I t iter (evI I.Φ I.cst it) ∧ GOk (blkI I scope) t tg ∧
      CdOk (blkI I scope) ifs (fun env1 => if hc = true then evT I.Φ I.cst cond env1 else R.ok true) ∧ EOk (blkI I scope) (em m) el (evX I.Φ I.cst (em m) elt) := by
  unfold mE at h
  try dsimp only at h
  split at h
  · rename_i el t iter ifs as scope pos
    simp only [Bool.and_eq_true] at h
    obtain ⟨⟨⟨⟨⟨⟨h0, h1⟩, h2⟩, h3⟩, h4⟩, h5⟩, h6⟩ := h
    obtain rfl := eq_of_beq h0
    refine ⟨el, t, iter, ifs, scope, pos, rfl, h1, h2, sI it I t _ hI h4, tg_ok (hI.blk scope) h3, ?_, sE elt (blkI I scope) (em m) _ (hI.blk scope) h6⟩
    cases hc with
    | false =>
      cases ifs with
      | nil => exact c_none
      | cons a l => cases h5
    | true =>
      cases ifs with
      | nil => cases h5
      | cons a l =>
        cases l with
        | nil => exact c_one (sT cond (blkI I scope) _ (hI.blk scope) h5)
        | cons b l => cases h5
  · cases h
theorem st_setAny {i : Nat} {x : Str} {px pos : Pos} {c : CE} {v : Expr} (hI : IOk I) (hN : I.N[i]? = some x) (hl : I.loc x = true) (hm : m ≠ .b) (h : mE I.N I.nm I.cst c I.sc I.loc v = true)
    (hv : (notComp v || lcB I.sc v) = true) : StOk I (.Assign [.Name x px] v pos) (fun env => (evX I.Φ I.cst m c env).s fun d => .nx (env.set i (some d))) := by
  by_cases hn : notComp v = true
  · exact s_set hI hm hN hl (sE c I m v hI h) fun X hX => noSwap hn
  · rw [Bool.not_eq_true] at hn
    rw [hn, Bool.false_or] at hv
    cases v with
    | ListComp el gs scope vpos =>
      have hk : I.sc.kind = .function := of_decide_eq_true hv
      cases hs : swB I.sc scope x px vpos with
      | false => exact s_set hI hm hN hl (sE c I m _ hI h) fun X hX => sw_no (by rw [hX.sc]; exact hk) (by rw [hX.sc]; exact hs)
      | true =>
        cases c with
        | comp tg it hc cond elt =>
          obtain ⟨el', t, iter, ifs, scope', pos', e, h1, h2, h3, h4, h5, h6⟩ := comp_pieces (m := m) hI h
          cases e
          exact s_setLc hI hm hN hl hs h1 h2 h3 h4 h5 h6
        | _ => unfold mE at h; simp at h
    | _ => cases hv
set_option maxHeartbeats 4000000 in
mutual
theorem sS (n : Nat) : ∀ (c : CS) (I : Info) (st : Stmt), IOk I → mS I.N I.nm I.cst c I.sc I.loc st = true → StOk I st (evS I.Φ I.cst n c)
  | .set i m c, I, st, hI, h => by
    unfold mS at h
    try dsimp only at h
    split at h
    · simp only [Bool.and_eq_true, decide_eq_true_eq] at h
      obtain ⟨⟨⟨⟨h0, h1⟩, h2⟩, h3⟩, h4⟩ := h
      exact st_setAny hI h0 h1 h2 h3 h4
    · cases h
  | .par i j a b, I, st, hI, h => by
    unfold mS at h
    try dsimp only at h
    split at h
    · simp only [Bool.and_eq_true, decide_eq_true_eq] at h
      obtain ⟨⟨⟨⟨⟨⟨⟨h0, h1⟩, h2⟩, h3⟩, h4⟩, h5⟩, h6⟩, h7⟩ := h
      exact s_par hI h0 h1 h2 h3 h4 h5 (sE a I .f _ hI h6) (sE b I .f _ hI h7)
    · cases h
  | .par3 i j l a b c, I, st, hI, h => by
    unfold mS at h
    try dsimp only at h
    split at h
    · simp only [Bool.and_eq_true, decide_eq_true_eq] at h
      obtain ⟨⟨⟨⟨⟨⟨⟨⟨⟨h1, h2⟩, h3⟩, h4⟩, h5⟩, h6⟩, h7⟩, h8⟩, h9⟩, h10⟩ := h
      exact s_par3 hI h1 h2 h3 h4 h5 h6 h7 (sE a I .f _ hI h8) (sE b I .f _ hI h9) (sE c I .f _ hI h10)
    · cases h
  | .parc i j a b, I, st, hI, h => by
    unfold mS at h
    try dsimp only at h
    split at h
    · rename_i x px y py k1 p1 u v k2 p2 pos
      have hh : (decide (I.N[i]? = some x) && decide (I.N[j]? = some y) && I.loc x && I.loc y && [u, v].all (foldedForSure 8) && notStar u && notStar v && mEs I.N I.nm I.cst (.cons a (.cons b .nil)) I.sc I.loc [u, v]) = true := h
      rw [Bool.and_eq_true, Bool.and_eq_true, Bool.and_eq_true, Bool.and_eq_true, Bool.and_eq_true, Bool.and_eq_true, Bool.and_eq_true] at hh
      obtain ⟨⟨⟨⟨⟨⟨⟨h1, h2⟩, h3⟩, h4⟩, h5⟩, h6⟩, h7⟩, h8⟩ := hh
      exact s_parc hI (of_decide_eq_true h1) (of_decide_eq_true h2) h3 h4 h5 h6 h7 (sEs _ I _ hI h8)
    · cases h
  | .rett i j, I, st, hI, h => by
    unfold mS at h
    try dsimp only at h
    split at h
    · simp only [Bool.and_eq_true] at h
      obtain ⟨v1, v2, v3, v4⟩ := mVar_ok h.1
      obtain ⟨w1, w2, w3, w4⟩ := mVar_ok h.2
      exact s_rett v1 v2 v3 v4 w1 w2 w3 w4
    · cases h
  | .unpo i j c, I, st, hI, h => by
    unfold mS at h
    try dsimp only at h
    split at h
    · simp only [Bool.and_eq_true, decide_eq_true_eq] at h
      obtain ⟨⟨⟨⟨⟨⟨h1, h2⟩, h3⟩, h4⟩, h5⟩, h6⟩, h7⟩ := h
      exact s_unpo hI h1 h2 h3 h4 (sE c I .o _ hI h7) h5 (fun a b c e => by subst e; simp [notTup] at h6)
    · cases h
  | .clr i, I, st, hI, h => by
    unfold mS at h
    try dsimp only at h
    split at h
    · simp only [Bool.and_eq_true] at h
      obtain ⟨⟨h0, h1⟩, h2⟩ := h
      obtain rfl := beq_str h0
      obtain ⟨v1, v2, v3, v4⟩ := mVar_ok h1
      exact s_clr v1 v2 v3 v4 h2
    · cases h
  | .unp is c, I, st, hI, h => by
    unfold mS at h
    try dsimp only at h
    split at h
    · simp only [Bool.and_eq_true] at h
      obtain ⟨⟨⟨h0, h1⟩, h2⟩, h3⟩ := h
      obtain ⟨g, hs⟩ := tgs_ok hI h0
      exact s_unp (g_many g hs) (sE c I .f _ hI h3) h1 (fun a b c e => by subst e; simp [notTup] at h2)
    · cases h
  | .app i c, I, st, hI, h => by
    unfold mS at h
    try dsimp only at h
    split at h
    · simp only [Bool.and_eq_true] at h
      obtain ⟨⟨⟨⟨h0, h1⟩, h2⟩, h3⟩, h4⟩ := h
      obtain rfl := beq_str h0
      obtain ⟨v1, v2, v3, v4⟩ := mVar_ok h1
      exact s_app v1 v2 v3 v4 h2 (sE c I .f _ hI h4) h3
    · cases h
  | .appAt i k c, I, st, hI, h => by
    unfold mS at h
    try dsimp only at h
    split at h
    · simp only [Bool.and_eq_true] at h
      obtain ⟨⟨⟨⟨h0, h2⟩, h3⟩, h5⟩, h1⟩ := h
      split at h1
      · simp only [Bool.and_eq_true] at h1
        obtain ⟨⟨h1, h4⟩, h6⟩ := h1
        obtain rfl := beq_str h0
        obtain ⟨v1, v2, v3, v4⟩ := mVar_ok h1
        exact s_appAt v1 v2 v3 v4 h2 (sE c I .f _ hI h5) h3 (sE k I .f _ hI h6) h4
      · cases h1
    · cases h
  | .appPop i j k, I, st, hI, h => by
    unfold mS at h
    try dsimp only at h
    split at h
    · simp only [Bool.and_eq_true] at h
      obtain ⟨⟨⟨h0, h2⟩, h4⟩, h7⟩ := h
      split at h7
      · simp only [Bool.and_eq_true] at h7
        obtain ⟨⟨⟨⟨h1, h3⟩, h5⟩, h6⟩, h7⟩ := h7
        obtain rfl := beq_str h0
        obtain rfl := beq_str h1
        obtain ⟨v1, v2, v3, v4⟩ := mVar_ok h2
        obtain ⟨u1, u2, u3, u4⟩ := mVar_ok h3
        exact s_appPop v1 v2 v3 v4 h4 u1 u2 u3 u4 h5 (sE k I .f _ hI h7) h6
      · cases h7
    · cases h
  | .ext i c, I, st, hI, h => by
    unfold mS at h
    try dsimp only at h
    split at h
    · simp only [Bool.and_eq_true] at h
      obtain ⟨⟨⟨⟨h0, h1⟩, h2⟩, h3⟩, h4⟩ := h
      obtain rfl := beq_str h0
      obtain ⟨v1, v2, v3, v4⟩ := mVar_ok h1
      exact s_ext v1 v2 v3 v4 h2 (sE c I .f _ hI h4) h3
    · cases h
  | .setIx i k c, I, st, hI, h => by
    unfold mS at h
    try dsimp only at h
    split at h
    · simp only [Bool.and_eq_true] at h
      obtain ⟨⟨⟨⟨h0, h1⟩, h2⟩, h3⟩, h4⟩ := h
      obtain ⟨v1, v2, v3, v4⟩ := mVar_ok h0
      exact s_setIx v1 v2 v3 v4 (sE c I .f _ hI h3) (sE k I .f _ hI h4) h1 fun _ _ _ => noSwap h2
    · cases h
  | .dput i k c, I, st, hI, h => by
    unfold mS at h
    try dsimp only at h
    split at h
    · simp only [Bool.and_eq_true] at h
      obtain ⟨⟨⟨h0, h2⟩, h3⟩, h4⟩ := h
      obtain ⟨v1, v2, v3, v4⟩ := mVar_ok h0
      exact s_dput v1 v2 v3 v4 (sE c I .f _ hI h3) (sE k I .f _ hI h4) fun _ _ _ => noSwap h2
    · cases h
  | .setIx2 i j k c, I, st, hI, h => by
    unfold mS at h
    try dsimp only at h
    split at h
    · simp only [Bool.and_eq_true] at h
      obtain ⟨⟨⟨⟨h1, h3⟩, h4⟩, h6⟩, h0⟩ := h
      split at h0
      · simp only [Bool.and_eq_true] at h0
        obtain ⟨⟨h0, h2⟩, h5⟩ := h0
        obtain ⟨v1, v2, v3, v4⟩ := mVar_ok h0
        exact s_setIx2 v1 v2 v3 v4 (sE c I .f _ hI h4) (sE j I .f _ hI h5) (sE k I .f _ hI h6) h2 h1 fun _ _ _ _ => noSwap h3
      · cases h0
    · cases h
  | .ifs c a b, I, st, hI, h => by
    unfold mS at h
    try dsimp only at h
    split at h
    · simp only [Bool.and_eq_true] at h
      obtain ⟨⟨h0, h1⟩, h2⟩ := h
      exact s_if (sT c I _ hI h0) (sSs n a I _ hI h1) (sSs n b I _ hI h2)
    · cases h
  | .fors ct it kl body, I, st, hI, h => by
    unfold mS at h
    try dsimp only at h
    split at h
    · simp only [Bool.and_eq_true] at h
      obtain ⟨⟨⟨h0, h1⟩, h2⟩, h3⟩ := h
      exact s_for h0 (sI it I _ _ hI h2) (tg_ok hI h1) (sSs n body I _ hI h3)
    · cases h
  | .whil c kl body, I, st, hI, h => by
    unfold mS at h
    try dsimp only at h
    split at h
    · simp only [Bool.and_eq_true] at h
      exact s_while (sT c I _ hI h.1) (sSs n body I _ hI h.2)
    · cases h
  | .ret c, I, st, hI, h => by
    unfold mS at h
    try dsimp only at h
    split at h
    · exact s_ret (sE c I .o _ hI h)
    · cases h
  | .retv i, I, st, hI, h => by
    unfold mS at h
    try dsimp only at h
    split at h
    · obtain ⟨v1, v2, v3, v4⟩ := mVar_ok h
      exact s_retv v1 v2 v3 v4
    · cases h
  | .exp c, I, st, hI, h => by
    unfold mS at h
    try dsimp only at h
    split at h
    · simp only [Bool.and_eq_true] at h
      exact s_exp (sE c I .f _ hI h.2) h.1
    · cases h
  | .bad, I, st, hI, h => st_bad
  | .frz _, I, st, hI, h => by unfold mS at h; cases h
theorem sSs (n : Nat) : ∀ (c : CSs) (I : Info) (sts : List Stmt), IOk I → mSs I.N I.nm I.cst c I.sc I.loc sts = true → StsOk I sts (evSs I.Φ I.cst n c)
  | .nil, I, sts, hI, h => by
    unfold mSs at h
    try dsimp only at h
    split at h
    · exact st_nil
    · cases h
  | .cons s ss, I, sts, hI, h => by
    unfold mSs at h
    try dsimp only at h
    split at h
    · exact st_frz (sSs n ss I sts hI h)
    · split at h
      · simp only [Bool.and_eq_true] at h
        exact st_cons (sS n s I _ hI h.1) (sSs n ss I _ hI h.2)
      · cases h
end

/-! ### a def -/
def scB (N ps : List Str) (sc : Scope) : Bool := decide (sc.kind = .function) && !sc.isCoroutine && !sc.isGenerator && decide N.Nodup && decide (N.take ps.length = ps) &&
  (ps.all fun x => match sc.names.lookup x with | some .local => true | some .cell => true | _ => false) && (sc.names.all fun y => match y.2 with | .free => false | _ => true)
theorem scB_ok {N ps : List Str} {sc : Scope} (h : scB N ps sc = true) : FnScope N ps sc := by
  unfold scB at h
  simp only [Bool.and_eq_true, decide_eq_true_eq, Bool.not_eq_true', List.all_eq_true] at h
  obtain ⟨⟨⟨⟨⟨⟨h1, h2⟩, h3⟩, h4⟩, h5⟩, h6⟩, h7⟩ := h
  refine ⟨h1, h2, h3, h4, h5, fun x hx => ?_, fun y hy e => ?_⟩
  · have := h6 x hx
    split at this
    · exact .inl (by assumption)
    · exact .inr (by assumption)
    · cases this
  · have := h7 y hy
    rw [e] at this; cases this
def mDef (N ps : List Str) (nm : Nat → Option (Str × Nat)) (cs : Str → Option D) (code : CSs) (st : Stmt) : Bool :=
  scB N ps (defScope st) && mSs N nm cs code (defScope st) (locS (defScope st)) (defBody st)
theorem locS_ok {sc : Scope} {x : Str} (h : locS sc x = true) : Loc sc x := by
  unfold locS at h
  split at h
  · exact .inl (by assumption)
  · exact .inr (by assumption)
  · cases h

section
variable {P : Program} {w : World} {K : PySem.W.Frag} {mg : Str → Option Value} {base : Heap}
/-- what a name of the module stands for: a def that keeps a function -/
def Callee (P : Program) (w : World) (K : PySem.W.Frag) (mg : Str → Option Value) (base : Heap) (cls : Str → Option Value) (k : Nat) (x : Str) (n : Nat) (f : List D → R D) : Prop :=
  ∃ a fd ps, ps.length = n ∧ mg x = some (.ref a) ∧ PySem.W.keepIn K (.ref a) = true ∧ Binds K fd ps [] ∧ FnOk P w K mg base (L2.CX P w) k a fd ps (spOf K cls ps.length f)
theorem Callee.mono {cls : Str → Option Value} {k k' n : Nat} {x : Str} {f : List D → R D} (h : Callee P w K mg base cls k x n f) (hk : k ≤ k') : Callee P w K mg base cls k' x n f := by
  obtain ⟨a, fd, ps, h1, h2, h3, h4, h5⟩ := h
  exact ⟨a, fd, ps, h1, h2, h3, h4, h5.mono hk⟩
/-- a table of callees -/
abbrev Tbl := List (Str × Nat × (List D → R D))
def tnm (t : Tbl) : Nat → Option (Str × Nat) := fun g => (t[g]?).map fun e => (e.1, e.2.1)
def tfn (t : Tbl) : Nat → List D → R D := fun g => match t[g]? with
  | some e => e.2.2
  | none => fun _ => .fail
structure Glo (P : Program) (w : World) (K : PySem.W.Frag) (mg : Str → Option Value) (base : Heap) (cls : Str → Option Value) (cst : Str → Option D) : Prop where
  blt : ∀ x : Str, x ∈ (["len", "abs", "max", "min", "int", "list", "tuple", "str", "range", "set", "isinstance", "bool", "enumerate", "zip"] : List Str) → mg x = none
  csts : ∀ x d, cst x = some d → ∃ v u, mg x = some u ∧ RelV v u ∧ ∀ F, Rep K F d v
theorem Sta.start {vs : List V} {ds : List D} {n : Nat} (e : Ex F H) (r : Reps K F ds vs) : Sta K ⟨H, F, fun _ => False⟩ F (fun _ => none) H (vs.map some ++ List.replicate (n - vs.length) none) (ds.map some ++ List.replicate (n - ds.length) none) [] := by
  have hl := reps_len r
  refine ⟨e, fun a s h => (nomatch h), fun a s h => (nomatch h), by simp [hl], fun i d h => ?_, fun j v d h => by simp at h, fun a j q h => (nomatch h), fun a o h _ => h, fun a o h => .inl h, fun a s h => (nomatch h), Evl.Ex.refl F⟩
  by_cases hi : i < ds.length
  · rw [List.getElem?_append_left (by simpa using hi), List.getElem?_map] at h
    cases e1 : ds[i]? with
    | none => rw [e1] at h; cases h
    | some d' =>
      rw [e1] at h
      obtain rfl : d' = d := by simpa using h
      obtain ⟨v, h1, h2⟩ := r.get e1
      exact ⟨v, by rw [List.getElem?_append_left (by simp; omega), List.getElem?_map, h1]; rfl, h2.own⟩
  · rw [List.getElem?_append_right (by simp; omega), List.getElem?_replicate] at h
    split at h <;> cases h
theorem Sta.bare {B : Base} {F H : Hp} {ω : Om} {σ : L2.St} {env : Env} {T : List (V × D)} (S : Sta K B F ω H σ env T) : Sta K B F ω H [] [] T :=
  ⟨S.ex, S.dis, S.trk, rfl, fun i d h => by simp at h, S.temp, S.low, S.fr, S.pF, S.pω, S.keep⟩
theorem def_fn {cls : Str → Option Value} {cst : Str → Option D} {x qual : Str} {st : Stmt} {f : Addr} {fd : FuncData} {N ps : List Str} {k n : Nat} {code : CSs} {t : Tbl} (G : Glo P w K mg base cls cst) (Fn : Fun K x qual st f fd)
    (hm : mDef N ps (tnm t) cst code st = true) (ht : ∀ e ∈ t, Callee P w K mg base cls k e.1 e.2.1 e.2.2) :
    FnOk P w K mg base (L2.CX P w) (k + 1) f fd ps (spOf K cls ps.length (evDef (tfn t) cst n N.length code)) := by
  unfold mDef at hm
  rw [Bool.and_eq_true] at hm
  have S := scB_ok hm.1
  refine Fn.okX S (fun vs H Q E h => h.1) fun cdv A outer s H vs Q E hr h => ?_
  obtain ⟨hlen, F, ds, e, r, W⟩ := h
  let I : Info := ⟨P, w, K, mg, base, N, defScope st, locS (defScope st), k, L2.CX P w, E, fun x F H => ExcE K cls x F H E, cls, tfn t, tnm t, cst⟩
  have hI : IOk I := by
    refine ⟨S.nd, fun g y m hn => ?_, G.blt, G.csts, fun x F H h => h, fun X h1 h2 => ?_⟩
    · have hn : (t[g]?).map (fun e => (e.1, e.2.1)) = some (y, m) := hn
      cases ht2 : t[g]? with
      | none => rw [ht2] at hn; cases hn
      | some en =>
        rw [ht2] at hn
        obtain ⟨rfl, rfl⟩ : en.1 = y ∧ en.2.1 = m := by simpa using hn
        obtain ⟨a, fd', ps', h1, h2, h3, h4, h5⟩ := ht en (List.mem_of_getElem? ht2)
        refine ⟨a, fd', ps', h1, h2, h3, h4, ?_⟩
        have e2 : I.Φ g = en.2.2 := by
          show tfn t g = _
          unfold tfn
          rw [ht2]
        rw [e2]
        exact h5
    · show Passes (L2.CX P w) X E0
      rw [← show X.prog = P from h1, ← show X.w = w from h2]
      exact passL
  obtain ⟨tr, p1, p2⟩ := sSs n code I (defBody st) hI hm.2
  refine ⟨tr, p1 _ ?_, ?_⟩
  · refine { prog := rfl, w := rfl, K := rfl, mg := rfl, base := rfl, N := rfl, sc := rfl, loc := fun y hy => ⟨locS_ok hy, .inl rfl⟩, calm := rfl, room := hr, pass := ?_, own := ?_ }
    · exact passes_call (takes_of rfl rfl rfl rfl) (fun _ _ _ _ h => h)
    · exact passes_of rfl
  · have S0 : Sta K ⟨H, F, fun _ => False⟩ F (fun _ => none) H (start N vs) (ds.map some ++ List.replicate (N.length - ds.length) none) [] := Sta.start e r
    refine p2 ⟨H, F, fun _ => False⟩ F _ H (start N vs) _ _ S0 ?_
    have W : Want (match evSs (tfn t) cst n code (ds.map some ++ List.replicate (N.length - ds.length) none) with
      | .rt d _ => R.ok d
      | .nx _ => .ok .non
      | .ex x => .exc x
      | .fail => .fail) _ _ := W
    show WantS I _ F (evSs (tfn t) cst n code _) _
    cases ev : evSs (tfn t) cst n code (ds.map some ++ List.replicate (N.length - ds.length) none) with
    | nx env' =>
      rw [ev] at W
      intro F' ω' H' σ' S' _
      exact W .non F' ω' H' (S'.bare.push rfl)
    | rt d env' =>
      rw [ev] at W
      intro v F' ω' H' σ' S' _
      exact W v F' ω' H' S'.bare
    | ex x =>
      rw [ev] at W
      intro F' ω' H' σ' env' S' _
      exact W F' ω' H' S'.bare
    | fail => rw [ev] at W; exact W.elim
theorem def_ok {cls : Str → Option Value} {cst : Str → Option D} {x qual : Str} {st : Stmt} {f : Addr} {fd : FuncData} {N ps : List Str} {k n : Nat} {code : CSs} {t : Tbl} (G : Glo P w K mg base cls cst) (Fn : Fun K x qual st f fd)
    (hm : mDef N ps (tnm t) cst code st = true) (hb : Binds K fd ps []) (hg : mg x = some (.ref f)) (ht : ∀ e ∈ t, Callee P w K mg base cls k e.1 e.2.1 e.2.2) :
    Callee P w K mg base cls (k + 1) x ps.length (evDef (tfn t) cst n N.length code) :=
  ⟨f, fd, ps, rfl, hg, Fn.kp, hb, def_fn G Fn hm ht⟩
/-- a def as the top has laid it -/
def DefAt (K : PySem.W.Frag) (x : Str) (st : Stmt) : Prop := ∃ (f : Addr) (oc : Value) (od an : Option Addr) (sl : Array (Option Value)) (kV dc pm cd ct : Value),
  PySem.W.nsIn K mainGlobals x = some (some (.ref f)) ∧ K.lookup f = some ⟨oc, od, .func (PySem.W.fnOf x x (defArgs st) (defBody st) (defScope st) .none kV dc pm an cd ct), sl⟩ ∧ PySem.W.codeIn K cd x = true ∧ PySem.W.keepIn K (.ref f) = true
theorem DefAt.mk {x : Str} {st : Stmt} {f : Addr} {oc : Value} {od an : Option Addr} {sl : Array (Option Value)} {kV dc pm cd ct : Value} (a : PySem.W.nsIn K mainGlobals x = some (some (.ref f)))
    (l : K.lookup f = some ⟨oc, od, .func (PySem.W.fnOf x x (defArgs st) (defBody st) (defScope st) .none kV dc pm an cd ct), sl⟩) (c : PySem.W.codeIn K cd x = true) (k : PySem.W.keepIn K (.ref f) = true) : DefAt K x st :=
  ⟨f, oc, od, an, sl, kV, dc, pm, cd, ct, a, l, c, k⟩
/-- what of a def's arguments is bound -/
def BindsAs (st : Stmt) (ps : List Str) : Prop := ∀ (x : Str) (kV dc pm cd ct : Value) (an : Option Addr), Binds K (PySem.W.fnOf x x (defArgs st) (defBody st) (defScope st) .none kV dc pm an cd ct) ps []
theorem DefAt.callee {cls : Str → Option Value} {cst : Str → Option D} {x : Str} {st : Stmt} {N ps : List Str} {k n : Nat} {code : CSs} {t : Tbl} {h : Heap} (Y : DefAt K x st) (Z : K.In h) (G0 : h.Ns mainGlobals mg) (G : Glo P w K mg base cls cst)
    (hm : mDef N ps (tnm t) cst code st = true) (hb : ∀ {f : Addr} {fd : FuncData}, Fun K x x st f fd → Binds K fd ps []) (ht : ∀ e ∈ t, Callee P w K mg base cls k e.1 e.2.1 e.2.2) :
    Callee P w K mg base cls (k + 1) x ps.length (evDef (tfn t) cst n N.length code) := by
  obtain ⟨f, oc, od, an, sl, kV, dc, pm, cd, ct, a, l, c, k⟩ := Y
  exact def_ok G (fun_mk l c k) hm (hb (fun_mk l c k)) (PySem.W.mg_of Z G0 a) ht
theorem Glo.make {cls : Str → Option Value} {cst : Str → Option D} {h : Heap} (Z : K.In h) (G0 : h.Ns mainGlobals mg)
    (hb : ∀ x : Str, x ∈ (["len", "abs", "max", "min", "int", "list", "tuple", "str", "range", "set", "isinstance", "bool", "enumerate", "zip"] : List Str) → PySem.W.nsIn K mainGlobals x = some none)
    (hc : ∀ x d, cst x = some d → ∃ v u, PySem.W.nsIn K mainGlobals x = some (some u) ∧ RelV v u ∧ ∀ F, Rep K F d v) : Glo P w K mg base cls cst :=
  ⟨fun x hx => PySem.W.mg_none_of Z G0 (hb x hx), fun x d h => by
    obtain ⟨v, u, h1, h2, h3⟩ := hc x d h
    exact ⟨v, u, PySem.W.mg_of Z G0 h1, h2, h3⟩⟩
def ConstAt (K : PySem.W.Frag) (x : Str) (v : V) : Prop := ∃ u, PySem.W.nsIn K mainGlobals x = some (some u) ∧ RelV v u
theorem ConstAt.mk {x : Str} {v : V} {u : Value} (h : PySem.W.nsIn K mainGlobals x = some (some u)) (r : RelV v u) : ConstAt K x v := ⟨u, h, r⟩
theorem cx_never {P : Program} {w : World} {H : Hp} {s : Shared} {e : Value} {s' : Shared} (h : L2.CX P w [] H s (fun _ _ _ => False) e s') : False := by
  obtain ⟨_, _, _, _, _, _, _, _, _, _, _, _, h⟩ := h
  exact h
theorem law_sp {cls : Str → Option Value} {f : List D → R D} {H : Hp} {a : Addr} {ns : List Int} (hS : SqL K H a (ns.map V.int)) (h : f [.scr ns] = .ok (.bl true)) :
    spOf K cls 1 f [.ref a] H (fun v _ => v = .bl true) (fun _ _ _ => False) := by
  refine ⟨rfl, H, [.scr ns], Evl.Ex.refl H, reps_one (by rw [Rep]; exact ⟨a, rfl, hS⟩), ?_⟩
  rw [h]
  intro v F' ω' H' S
  exact S.temp 0 v (.bl true) rfl
end
end TI
set_option Elab.async false
set_option linter.all false
set_option maxRecDepth 100000
/-! PL1: how the evaluator's terms are worked out. -/
namespace TI
open PySem L2
@[simp] theorem getv_z (d : D) (e : Env) : getv (some d :: e) 0 = .ok d := rfl
@[simp] theorem getv_s (o : Option D) (e : Env) (n : Nat) : getv (o :: e) (n + 1) = getv e n := by cases o <;> rfl
@[simp] theorem ownL_z (xs : List D) (e : Env) : ownL (some (.lst true xs) :: e) 0 = .ok xs := rfl
@[simp] theorem ownL_s (o : Option D) (e : Env) (n : Nat) : ownL (o :: e) (n + 1) = ownL e n := by
  cases o with
  | none => rfl
  | some d => cases d <;> first | rfl | (rename_i o _; cases o <;> rfl)
@[simp] theorem ownDT_z (xs : List (List Int)) (e : Env) : ownDT (some (.dT true xs) :: e) 0 = .ok xs := rfl
@[simp] theorem ownDT_s (o : Option D) (e : Env) (n : Nat) : ownDT (o :: e) (n + 1) = ownDT e n := by
  cases o with
  | none => rfl
  | some d => cases d <;> first | rfl | (rename_i o _; cases o <;> rfl)
@[simp] theorem isF_non : isF .non = true := rfl
@[simp] theorem isF_bl (b : Bool) : isF (.bl b) = true := rfl
@[simp] theorem isF_int (i : Int) : isF (.int i) = true := rfl
@[simp] theorem isF_str (i : Str) : isF (.str i) = true := rfl
@[simp] theorem isF_scr (i : List Int) : isF (.scr i) = true := rfl
@[simp] theorem isF_lst (xs : List D) : isF (.lst false xs) = isFs xs := by rw [isF]; rfl
@[simp] theorem isF_tup (xs : List D) : isF (.tup xs) = isFs xs := by rw [isF]
@[simp] theorem isF_dT (xs : List (List Int)) : isF (.dT false xs) = true := rfl
@[simp] theorem isFs_nil : isFs [] = true := rfl
@[simp] theorem isFs_cons (x : D) (xs : List D) : isFs (x :: xs) = (isF x && isFs xs) := by rw [isFs]
theorem isFs_all {xs : List D} : isFs xs = true ↔ ∀ x ∈ xs, isF x = true := by
  induction xs with
  | nil => simp
  | cons x xs ih => simp [ih]
@[simp] theorem isFs_map {α : Type} (f : α → D) (xs : List α) (h : ∀ x ∈ xs, isF (f x) = true) : isFs (xs.map f) = true := by
  rw [isFs_all]
  intro x hx
  obtain ⟨y, hy, rfl⟩ := List.mem_map.mp hx
  exact h y hy
@[simp] theorem isFs_append (xs ys : List D) : isFs (xs ++ ys) = (isFs xs && isFs ys) := by
  induction xs with
  | nil => simp
  | cons x xs ih => simp [ih, Bool.and_assoc]
mutual
theorem fz_of : ∀ {d : D}, isF d = true → fz d = d
  | .non, _ => rfl
  | .bl _, _ => rfl
  | .int _, _ => rfl
  | .str _, _ => rfl
  | .scr _, _ => rfl
  | .tup _, _ => rfl
  | .pr xs, h => by
    have h : isFs xs = true := by simpa [isF] using h
    rw [fz, fzs_of h]
  | .lst true xs, h => by simp [isF] at h
  | .lst false xs, h => by
    rw [isF_lst] at h
    rw [fz, fzs_of h]
  | .dK true _ xs, h => by simp [isF] at h
  | .dK false _ xs, h => by
    have h : isFs xs = true := by simpa [isF] using h
    rw [fz, fzs_of h]
  | .dT true _, h => by simp [isF] at h
  | .dT false _, h => rfl
theorem fzs_of : ∀ {xs : List D}, isFs xs = true → fzs xs = xs
  | [], _ => rfl
  | x :: xs, h => by
    rw [isFs_cons, Bool.and_eq_true] at h
    rw [fzs, fz_of h.1, fzs_of h.2]
end
@[simp] theorem fz_non : fz .non = .non := rfl
@[simp] theorem fz_bl (b : Bool) : fz (.bl b) = .bl b := rfl
@[simp] theorem fz_int (b : Int) : fz (.int b) = .int b := rfl
@[simp] theorem fz_tup (b : List D) : fz (.tup b) = .tup b := rfl
theorem fz_lst {o : Bool} {xs : List D} (h : isFs xs = true) : fz (.lst o xs) = .lst false xs := by rw [fz, fzs_of h]
@[simp] theorem gM_b (d : D) : gM .b d = .ok () := rfl
theorem gM_f {m : M} {d : D} (h : isF d = true) : gM m d = .ok () := by cases m <;> simp [gM, h]
/-! operators -/
section
variable {o : Bool} {a b : Int}
@[simp] theorem b_add : binD .Add o (.int a) (.int b) = .ok (.int (a + b)) := rfl
@[simp] theorem b_sub : binD .Sub o (.int a) (.int b) = .ok (.int (a - b)) := rfl
theorem b_mul (h : a.natAbs < 2 ^ 64 ∨ b.natAbs < 2 ^ 64) : binD .Mult o (.int a) (.int b) = .ok (.int (a * b)) := by
  show (do gd (decide _); _ : R D) = _
  rw [decide_eq_true h]; rfl
theorem b_mod (h : 0 < b) : binD .Mod o (.int a) (.int b) = .ok (.int (a % b)) := by
  show (do gd (decide (b ≠ 0)); _ : R D) = _
  rw [decide_eq_true (by omega), ← Int.fmod_eq_emod_of_nonneg a (by omega)]; rfl
theorem b_div (h : 0 < b) (h2 : b < 1073741824) : binD .FloorDiv o (.int a) (.int b) = .ok (.int (a / b)) := by
  show (do gd (decide (b ≠ 0 ∧ b.natAbs < 1073741824)); _ : R D) = _
  rw [decide_eq_true ⟨by omega, by omega⟩, ← Int.fdiv_eq_ediv_of_nonneg a (by omega)]; rfl
theorem b_pow (h : 0 ≤ b ∧ b ≤ 1000000 ∧ a.natAbs < 2 ^ 64) : binD .Pow o (.int a) (.int b) = .ok (.int (a ^ b.toNat)) := by
  show (do gd (decide _); _ : R D) = _
  rw [decide_eq_true h]; rfl
theorem b_addL {o1 o2 : Bool} {xs ys : List D} (h : xs.length + ys.length ≤ lim) : binD .Add o (.lst o1 xs) (.lst o2 ys) = .ok (.lst o (xs ++ ys)) := by
  show (do gd (decide _); _ : R D) = _
  rw [decide_eq_true h]; rfl
theorem b_addT {xs ys : List D} (h : xs.length + ys.length ≤ lim) : binD .Add o (.tup xs) (.tup ys) = .ok (.tup (xs ++ ys)) := by
  show (do gd (decide _); _ : R D) = _
  rw [decide_eq_true h]; rfl
theorem b_rep {o1 : Bool} {xs : List D} {k : Int} (h : k.natAbs < 2 ^ 63 ∧ xs.length * k.toNat ≤ lim) : binD .Mult o (.lst o1 xs) (.int k) = .ok (.lst o (rep k.toNat xs)) := by
  show (do gd (decide _); _ : R D) = _
  rw [decide_eq_true h]; rfl
@[simp] theorem c_lt : cmpD .Lt (.int a) (.int b) = .ok (.bl (decide (a < b))) := rfl
@[simp] theorem c_le : cmpD .LtE (.int a) (.int b) = .ok (.bl (decide (a ≤ b))) := rfl
@[simp] theorem c_gt : cmpD .Gt (.int a) (.int b) = .ok (.bl (decide (b < a))) := rfl
@[simp] theorem c_ge : cmpD .GtE (.int a) (.int b) = .ok (.bl (decide (b ≤ a))) := rfl
@[simp] theorem c_eq : cmpD .Eq (.int a) (.int b) = .ok (.bl (decide (a = b))) := rfl
@[simp] theorem c_ne : cmpD .NotEq (.int a) (.int b) = .ok (.bl (decide (a ≠ b))) := by
  show R.ok (D.bl (!decide (a = b))) = _
  rw [decide_not]
@[simp] theorem c_eqb {x y : Bool} : cmpD .Eq (.bl x) (.bl y) = .ok (.bl (decide (x = y))) := rfl
@[simp] theorem c_neb {x y : Bool} : cmpD .NotEq (.bl x) (.bl y) = .ok (.bl (decide (x ≠ y))) := by
  show R.ok (D.bl (!decide (x = y))) = _
  rw [decide_not]
@[simp] theorem c_isn {x : D} : cmpD .Is x .non = .ok (.bl (isNon x)) := by cases x <;> rfl
@[simp] theorem len_l {o : Bool} {xs : List D} : lenD (.lst o xs) = .ok (.int xs.length) := rfl
@[simp] theorem len_t {xs : List D} : lenD (.tup xs) = .ok (.int xs.length) := rfl
@[simp] theorem len_s {xs : List Int} : lenD (.scr xs) = .ok (.int xs.length) := rfl
@[simp] theorem items_l {o : Bool} {xs : List D} : itemsL (.lst o xs) = .ok xs := rfl
@[simp] theorem items_t {xs : List D} : itemsL (.tup xs) = .ok xs := rfl
@[simp] theorem items_s {xs : List Int} : itemsL (.scr xs) = .ok (xs.map .int) := rfl
end
theorem atI_n {α : Type} {xs : List α} {i : Nat} (h : i < xs.length) : atI xs (i : Int) = some xs[i] := atI_nat (List.getElem?_eq_getElem h)
theorem atI_i {α : Type} {xs : List α} {i : Int} (h0 : 0 ≤ i) (h : i.toNat < xs.length) : atI xs i = some xs[i.toNat] := by
  obtain ⟨n, rfl⟩ := Int.eq_ofNat_of_zero_le h0
  exact atI_n h
theorem ix_l {o : Bool} {xs : List D} {i : Int} (h0 : 0 ≤ i) (h : i.toNat < xs.length) : ixD (.lst o xs) (.int i) = .ok xs[i.toNat] := by
  show ofO (atI xs i) = _
  rw [atI_i h0 h]; rfl
theorem ix_t {xs : List D} {i : Int} (h0 : 0 ≤ i) (h : i.toNat < xs.length) : ixD (.tup xs) (.int i) = .ok xs[i.toNat] := by
  show ofO (atI xs i) = _
  rw [atI_i h0 h]; rfl
theorem ix_s {xs : List Int} {i : Int} (h0 : 0 ≤ i) (h : i.toNat < xs.length) : ixD (.scr xs) (.int i) = .ok (.int xs[i.toNat]) := by
  show (do let n ← ofO (atI xs i); _ : R D) = _
  rw [atI_i h0 h]; rfl
/-! loops -/
def stepL (b : Env → RS) (ct : CT) (kl : List Nat) (env : Env) (x : D) : RS := (bindT ct x env).s fun env1 => (b env1).thn fun env2 => .nx (wipeE env2 kl)
theorem forL_cons (b : Env → RS) (ct : CT) (kl : List Nat) (x : D) (xs : List D) (env : Env) : forL b ct kl (x :: xs) env = (stepL b ct kl env x).thn (forL b ct kl xs) := by
  unfold stepL
  rw [forL]
  cases bindT ct x env with
  | ok e1 =>
    show (b e1).thn _ = ((b e1).thn _).thn _
    cases b e1 <;> rfl
  | exc x => rfl
  | fail => rfl
/-- a loop that only goes on -/
theorem forL_fold {S : Type} {b : Env → RS} {ct : CT} {kl : List Nat} (E : S → Env) (g : S → D → S) (P : Nat → S → Prop) : ∀ {xs : List D} {s0 : S} {i0 : Nat},
    (∀ i s x, P i s → xs[i - i0]? = some x → i0 ≤ i → stepL b ct kl (E s) x = .nx (E (g s x)) ∧ P (i + 1) (g s x)) → P i0 s0 →
    forL b ct kl xs (E s0) = .nx (E (xs.foldl g s0)) ∧ P (i0 + xs.length) (xs.foldl g s0)
  | [], s0, i0, _, p => ⟨rfl, p⟩
  | x :: xs, s0, i0, h, p => by
    obtain ⟨h1, h2⟩ := h i0 s0 x p (by simp) (Nat.le_refl _)
    rw [forL_cons, h1]
    have := forL_fold (b := b) (ct := ct) (kl := kl) E g P (xs := xs) (s0 := g s0 x) (i0 := i0 + 1) (fun i s y ps hy hi => h i s y ps (by
      rw [show i - i0 = (i - (i0 + 1)) + 1 by omega]
      simpa using hy) (by omega)) h2
    refine ⟨this.1, ?_⟩
    rw [List.length_cons, show i0 + (xs.length + 1) = i0 + 1 + xs.length by omega]
    exact this.2
/-- a loop that goes on, or returns -/
theorem forL_find {b : Env → RS} {ct : CT} {kl : List Nat} {E : Env} (f : D → Option D) : ∀ {xs : List D},
    (∀ x ∈ xs, (f x = none → stepL b ct kl E x = .nx E) ∧ ∀ d, f x = some d → ∃ e, stepL b ct kl E x = .rt d e) →
    (xs.findSome? f = none → forL b ct kl xs E = .nx E) ∧ ∀ d, xs.findSome? f = some d → ∃ e, forL b ct kl xs E = .rt d e
  | [], _ => ⟨fun _ => rfl, fun d h => by cases h⟩
  | x :: xs, h => by
    have ih := forL_find (b := b) (ct := ct) (kl := kl) (E := E) f (xs := xs) fun y hy => h y (List.mem_cons_of_mem _ hy)
    obtain ⟨h1, h2⟩ := h x (by simp)
    rw [forL_cons, List.findSome?_cons]
    cases e : f x with
    | none =>
      rw [h1 e]
      exact ih
    | some d =>
      obtain ⟨e1, h3⟩ := h2 d e
      rw [h3]
      refine ⟨fun z => (by simp at z), fun d' z => ⟨e1, ?_⟩⟩
      have z : some d = some d' := z
      cases z
      rfl
/-- a comprehension -/
theorem compL_eq {f : D → R (Option D)} {g : D → Option D} : ∀ {xs : List D}, (∀ x ∈ xs, f x = .ok (g x)) → compL f xs = .ok (xs.filterMap g)
  | [], _ => rfl
  | x :: xs, h => by
    rw [compL, h x (by simp), List.filterMap_cons]
    have ih := compL_eq (f := f) (g := g) (xs := xs) fun y hy => h y (List.mem_cons_of_mem _ hy)
    cases e : g x with
    | none => simp only [ok_bind]; exact ih
    | some y => simp only [ok_bind]; rw [ih]; rfl
@[simp] theorem bindT_one (i : Nat) (x : D) (env : Env) : bindT (.one i) x env = .ok (env.set i (some x)) := rfl
abbrev eI (ns : List Int) : D := .lst false (ns.map .int)
abbrev eT (t : List (List Int)) : D := .lst false (t.map eI)
@[simp] theorem isFs_ints (ns : List Int) : isFs (ns.map .int) = true := isFs_map _ _ fun _ _ => rfl
@[simp] theorem isFs_eI (t : List (List Int)) : isFs (t.map eI) = true := isFs_map _ _ fun x _ => by simp
theorem intsD_map (ns : List Int) : intsD (ns.map .int) = some ns := by
  induction ns with
  | nil => rfl
  | cons n ns ih => rw [List.map_cons, intsD, ih]; rfl

/-- a loop that only goes on, by an invariant -/
theorem forL_inv {b : Env → RS} {ct : CT} {kl : List Nat} (P : Nat → Env → Prop) : ∀ {xs : List D} {e0 : Env} {i0 : Nat},
    (∀ i env x, P i env → xs[i - i0]? = some x → i0 ≤ i → ∃ env', stepL b ct kl env x = .nx env' ∧ P (i + 1) env') → P i0 e0 →
    ∃ env', forL b ct kl xs e0 = .nx env' ∧ P (i0 + xs.length) env'
  | [], e0, i0, _, p => ⟨e0, rfl, p⟩
  | x :: xs, e0, i0, h, p => by
    obtain ⟨e1, h1, h2⟩ := h i0 e0 x p (by simp) (Nat.le_refl _)
    rw [forL_cons, h1]
    obtain ⟨e2, h3, h4⟩ := forL_inv (b := b) (ct := ct) (kl := kl) P (xs := xs) (e0 := e1) (i0 := i0 + 1) (fun i s y ps hy hi => h i s y ps (by
      rw [show i - i0 = (i - (i0 + 1)) + 1 by omega]
      simpa using hy) (by omega)) h2
    refine ⟨e2, h3, ?_⟩
    rw [List.length_cons, show i0 + (xs.length + 1) = i0 + 1 + xs.length by omega]
    exact h4
theorem rngD_get {lo : Int} {n i : Nat} {x : D} (h : (rngD lo n)[i]? = some x) : i < n ∧ x = .int (lo + i) := by
  unfold rngD at h
  rw [List.getElem?_map] at h
  obtain ⟨j, hj, rfl⟩ := Option.map_eq_some_iff.mp h
  obtain ⟨h1, h2⟩ := List.getElem?_eq_some_iff.mp hj
  rw [List.getElem_range] at h2
  subst h2
  exact ⟨by simpa using h1, rfl⟩
@[simp] theorem rngD_len {lo : Int} {n : Nat} : (rngD lo n).length = n := by unfold rngD; simp
theorem gd_t {c : Bool} (h : c = true) : gd c = .ok () := by rw [h]; rfl
theorem gd_d {p : Prop} [Decidable p] (h : p) : gd (decide p) = .ok () := gd_t (decide_eq_true h)
section
variable {Φ : Nat → List D → R D} {cst : Str → Option D} {n : Nat} {env : Env} {m : M}
@[simp] theorem r_nil : evSs Φ cst n .nil env = .nx env := by rw [evSs]
@[simp] theorem r_cons {s : CS} {ss : CSs} : evSs Φ cst n (.cons s ss) env = (evS Φ cst n s env).thn (evSs Φ cst n ss) := by rw [evSs]
@[simp] theorem r_set {i : Nat} {e : CE} : evS Φ cst n (.set i m e) env = (evX Φ cst m e env).s fun d => .nx (env.set i (some d)) := by rw [evS]
@[simp] theorem r_par {i j : Nat} {a b : CE} : evS Φ cst n (.par i j a b) env = (evX Φ cst .f a env).s fun x => (evX Φ cst .f b env).s fun y => .nx ((env.set i (some x)).set j (some y)) := by rw [evS]
@[simp] theorem r_par3 {i j l : Nat} {a b c : CE} : evS Φ cst n (.par3 i j l a b c) env = (evX Φ cst .f a env).s fun x => (evX Φ cst .f b env).s fun y => (evX Φ cst .f c env).s fun z => .nx (((env.set i (some x)).set j (some y)).set l (some z)) := by rw [evS]
@[simp] theorem r_parc {i j : Nat} {a b : CE} : evS Φ cst n (.parc i j a b) env = (evs Φ cst (.cons a (.cons b .nil)) env).s fun ds => (bindT (.many [i, j]) (.tup ds) env).s .nx := by rw [evS]
@[simp] theorem r_unp {is : List Nat} {e : CE} : evS Φ cst n (.unp is e) env = (evX Φ cst .f e env).s fun d => (bindT (.many is) d env).s .nx := by rw [evS]
theorem r_app {i : Nat} {e : CE} : evS Φ cst n (.app i e) env = (ownL env i).s fun xs => (evX Φ cst .f e env).s fun d => (gd (decide (xs.length < lim))).s fun _ => .nx (env.set i (some (.lst true (xs ++ [d])))) := by rw [evS]
theorem r_appPop {i j : Nat} {k : CE} : evS Φ cst n (.appPop i j k) env = (ownL env i).s fun xs => (ownL env j).s fun ys => (evX Φ cst .f k env).s fun y => (isInt y).s fun z => (ofO (ixN ys.length z)).s fun q => (ofO ys[q]?).s fun d =>
      (gd (isFs ys && decide (i ≠ j) && decide (xs.length < lim) && decide (ys.length < lim))).s fun _ => .nx ((env.set j (some (.lst true (ys.eraseIdx q)))).set i (some (.lst true (xs ++ [d])))) := by rw [evS]
theorem r_ext {i : Nat} {e : CE} : evS Φ cst n (.ext i e) env = (ownL env i).s fun xs => (evX Φ cst .f e env).s fun d => (asLst d).s fun ys => (gd (decide (xs.length + ys.length ≤ lim))).s fun _ => .nx (env.set i (some (.lst true (xs ++ ys)))) := by rw [evS]
theorem r_setIx {i : Nat} {k e : CE} : evS Φ cst n (.setIx i k e) env = (evX Φ cst .f e env).s fun d => (ownL env i).s fun xs => (evX Φ cst .f k env).s fun y => (isInt y).s fun z => (ofO (ixN xs.length z)).s fun j => .nx (env.set i (some (.lst true (xs.set j d)))) := by rw [evS]
theorem r_setIx2 {i : Nat} {j k e : CE} : evS Φ cst n (.setIx2 i j k e) env = (evX Φ cst .f e env).s fun d => (ownL env i).s fun xs => (evX Φ cst .f j env).s fun y => (isInt y).s fun z => (ofO (ixN xs.length z)).s fun q => (ofO xs[q]?).s fun c => (asOwn c).s fun ys =>
      (evX Φ cst .f k env).s fun y2 => (isInt y2).s fun z2 => (ofO (ixN ys.length z2)).s fun q2 => .nx (env.set i (some (.lst true (xs.set q (.lst true (ys.set q2 d)))))) := by rw [evS]
theorem r_dput {i : Nat} {k e : CE} : evS Φ cst n (.dput i k e) env = (evX Φ cst .f e env).s fun d => (isTrue d).s fun _ => (ownDT env i).s fun ks => (evX Φ cst .f k env).s fun y => (asKT y).s fun q => (gd (decide (ks.length < lim))).s fun _ => .nx (env.set i (some (.dT true (if hasK ks q = true then ks else ks ++ [q])))) := by rw [evS]
@[simp] theorem r_ifs {c : CB} {a b : CSs} : evS Φ cst n (.ifs c a b) env = (evT Φ cst c env).s fun t => if t = true then evSs Φ cst n a env else evSs Φ cst n b env := by rw [evS]
@[simp] theorem r_fors {ct : CT} {it : CI} {kl : List Nat} {b : CSs} : evS Φ cst n (.fors ct it kl b) env = (evI Φ cst it env).s fun xs => forL (evSs Φ cst n b) ct kl xs env := by rw [evS]
@[simp] theorem r_whil {c : CB} {kl : List Nat} {b : CSs} : evS Φ cst n (.whil c kl b) env = whL (evT Φ cst c) (evSs Φ cst n b) kl n env := by rw [evS]
@[simp] theorem r_ret {e : CE} : evS Φ cst n (.ret e) env = (evX Φ cst .o e env).s fun d => .rt d env := by rw [evS]
@[simp] theorem r_retv {i : Nat} : evS Φ cst n (.retv i) env = (getv env i).s fun d => .rt d (env.set i none) := by rw [evS]
@[simp] theorem r_exp {e : CE} : evS Φ cst n (.exp e) env = (evX Φ cst .f e env).s fun _ => .nx env := by rw [evS]
@[simp] theorem r_frz {i : Nat} : evS Φ cst n (.frz i) env = (getv env i).s fun d => .nx (env.set i (some (fz d))) := by rw [evS]
@[simp] theorem x_var {i : Nat} : evX Φ cst m (.var i) env = (do let d ← getv env i; gM m d; .ok d) := by rw [evX]
@[simp] theorem x_gc {x : Str} : evX Φ cst m (.gc x) env = ofO (cst x) := by rw [evX]
@[simp] theorem x_int {x : Int} : evX Φ cst m (.int x) env = .ok (.int x) := by rw [evX]
@[simp] theorem x_bl {x : Bool} : evX Φ cst m (.bl x) env = .ok (.bl x) := by rw [evX]
@[simp] theorem x_non : evX Φ cst m .non env = .ok .non := by rw [evX]
@[simp] theorem x_bin {op : Operator} {a b : CE} : evX Φ cst m (.bin op a b) env = (do let x ← evX Φ cst .f a env; let y ← evX Φ cst .f b env; binD op (m == .o) x y) := by rw [evX]
@[simp] theorem x_neg {a : CE} : evX Φ cst m (.neg a) env = (do let x ← evX Φ cst .f a env; let i ← isInt x; .ok (.int (-i))) := by rw [evX]
@[simp] theorem x_cmp {op : CmpOp} {a b : CE} : evX Φ cst m (.cmp op a b) env = (do let x ← evX Φ cst .f a env; let y ← evX Φ cst .b b env; cmpD op x y) := by rw [evX]
@[simp] theorem x_chn {op op' : CmpOp} {a b c : CE} : evX Φ cst m (.chn op op' a b c) env = (do
    let x ← evX Φ cst .f a env
    let y ← evX Φ cst .f b env
    let d ← cmpD op x y
    let t ← isBl d
    if t = true then do let z ← evX Φ cst .f c env; cmpD op' y z else .ok (.bl false)) := by rw [evX]
@[simp] theorem x_bo {k : Bool} {es : CEs} : evX Φ cst m (.bo k es) env = evBV Φ cst k es env := by rw [evX]
@[simp] theorem x_no {a : CE} : evX Φ cst m (.no a) env = (do let x ← evX Φ cst .f a env; let b ← isBl x; .ok (.bl (!b))) := by rw [evX]
@[simp] theorem x_ite {t : CB} {a b : CE} : evX Φ cst m (.ite t a b) env = (do let c ← evT Φ cst t env; if c = true then evX Φ cst .f a env else evX Φ cst .f b env) := by rw [evX]
@[simp] theorem x_ix {a b : CE} : evX Φ cst m (.ix a b) env = (do let x ← evX Φ cst .b a env; let y ← evX Φ cst .f b env; let d ← ixD x y; gM m d; .ok d) := by rw [evX]
@[simp] theorem x_sl {a : CE} {lo hi : CO} : evX Φ cst m (.sl a lo hi) env = (do let x ← evX Φ cst .b a env; gd (kidsF x && !isStr x); let l ← evO Φ cst lo env; let h ← evO Φ cst hi env; slD (m == .o) x l h) := by rw [evX]
@[simp] theorem x_rev {a : CE} : evX Φ cst m (.rev a) env = (do let x ← evX Φ cst .f a env; revD (m == .o) x) := by rw [evX]
@[simp] theorem x_len {a : CE} : evX Φ cst m (.len a) env = (do let x ← evX Φ cst .b a env; lenD x) := by rw [evX]
@[simp] theorem x_lst {es : CEs} : evX Φ cst m (.lst es) env = (do let ds ← evs Φ cst es env; gd (decide (ds.length ≤ lim)); .ok (.lst (m == .o) ds)) := by rw [evX]
@[simp] theorem x_tup {es : CEs} : evX Φ cst m (.tup es) env = (do let ds ← evs Φ cst es env; gd (decide (ds.length ≤ lim)); .ok (.tup ds)) := by rw [evX]
@[simp] theorem x_call {g : Nat} {es : CEs} : evX Φ cst m (.call g es) env = (do let ds ← evs Φ cst es env; let d ← Φ g ds; .ok (if m = .o then d else fz d)) := by rw [evX]
@[simp] theorem x_bi {b : Bi} {es : CEs} : evX Φ cst m (.bi b es) env = (do let ds ← evs Φ cst es env; biD b (m == .o) ds) := by rw [evX]
theorem x_rngl {a : CE} : evX Φ cst m (.rngl a) env = (do
    let x ← evX Φ cst .f a env
    let n ← isInt x
    gd (decide (n.natAbs < 2 ^ 62 ∧ n.toNat ≤ lim))
    .ok (.lst (m == .o) (rngD 0 n.toNat))) := by rw [evX]
@[simp] theorem x_dnew : evX Φ cst m (.dnew true) env = .ok (.dT (m == .o) []) := by rw [evX]; rfl
@[simp] theorem x_din {neg : Bool} {k d : CE} : evX Φ cst m (.din neg k d) env = (do let x ← evX Φ cst .f k env; let y ← evX Φ cst .b d env; dinD neg x y) := by rw [evX]
@[simp] theorem x_isi {T : Ty} {a : CE} : evX Φ cst m (.isi T a) env = (do let x ← evX Φ cst .f a env; let b ← isiD T x; .ok (.bl b)) := by rw [evX]
@[simp] theorem x_lset {a : CE} : evX Φ cst m (.lset a) env = (do let x ← evX Φ cst .f a env; lsetD x) := by rw [evX]
@[simp] theorem x_tcount {a b : CE} : evX Φ cst m (.tcount a b) env = (do let x ← evX Φ cst .f a env; let xs ← asTup x; let y ← evX Φ cst .f b env; tcountD xs y) := by rw [evX]
def compB (Φ : Nat → List D → R D) (cst : Str → Option D) (m : M) (tg : CT) (hc : Bool) (cond : CB) (e : CE) (env : Env) (x : D) : R (Option D) := R.noX (do
      let env1 ← bindT tg x (wipeE env (slotsT tg))
      let c ← (if hc = true then evT Φ cst cond env1 else R.ok true)
      if c = true then do let d ← evX Φ cst m e env1; .ok (some d) else .ok none)
@[simp] theorem x_comp {tg : CT} {it : CI} {hc : Bool} {cond : CB} {e : CE} : evX Φ cst m (.comp tg it hc cond e) env = (do
    let xs ← evI Φ cst it env
    let ds ← compL (compB Φ cst (em m) tg hc cond e env) xs
    compR (m == .o) ds) := by rw [evX]; rfl
@[simp] theorem em_f : em .f = .f := rfl
@[simp] theorem em_o : em .o = .o := rfl
theorem compR_ok {o : Bool} {ds : List D} (h : ds.length ≤ lim) : compR o ds = .ok (.lst o ds) := by
  unfold compR
  rw [gd_d h]; rfl
@[simp] theorem tt_val {e : CE} : evT Φ cst (.val e) env = (do let d ← evX Φ cst .f e env; isBl d) := by rw [evT]
@[simp] theorem tt_no {t : CB} : evT Φ cst (.no t) env = (do let b ← evT Φ cst t env; .ok (!b)) := by rw [evT]
@[simp] theorem tt_bo {k : Bool} {t : CBs} : evT Φ cst (.bo k t) env = evTs Φ cst k t env := by rw [evT]
@[simp] theorem tts_nil {k : Bool} : evTs Φ cst k .nil env = .ok k := by rw [evTs]
@[simp] theorem tts_cons {k : Bool} {t : CB} {ts : CBs} : evTs Φ cst k (.cons t ts) env = (do
    let b ← evT Φ cst t env
    if b = k then evTs Φ cst k ts env else .ok b) := by rw [evTs]
@[simp] theorem bv_last {k : Bool} {a : CE} : evBV Φ cst k (.cons a .nil) env = evX Φ cst .f a env := by rw [evBV]; exact bind_ok _
@[simp] theorem bv_more {k : Bool} {a b : CE} {es : CEs} : evBV Φ cst k (.cons a (.cons b es)) env = (do
      let x ← evX Φ cst .f a env
      let t ← isBl x
      if t = k then evBV Φ cst k (.cons b es) env else .ok (.bl t)) := by rw [evBV]
@[simp] theorem s_nil : evs Φ cst .nil env = .ok [] := by rw [evs]
@[simp] theorem s_cons {e : CE} {es : CEs} : evs Φ cst (.cons e es) env = (do let d ← evX Φ cst .f e env; let ds ← evs Φ cst es env; .ok (d :: ds)) := by rw [evs]
@[simp] theorem o_none' : evO Φ cst .none env = .ok none := by rw [evO]
@[simp] theorem o_some' {e : CE} : evO Φ cst (.some e) env = (do let x ← evX Φ cst .f e env; let i ← isInt x; .ok (some i)) := by rw [evO]
@[simp] theorem i_ex {e : CE} : evI Φ cst (.ex e) env = (do let d ← evX Φ cst .f e env; itemsL d) := by rw [evI]
theorem i_rng1 {a : CE} : evI Φ cst (.rng1 a) env = (do
    let x ← evX Φ cst .f a env
    let n ← isInt x
    gd (decide (n.natAbs < 2 ^ 62))
    .ok (rngD 0 n.toNat)) := by rw [evI]
@[simp] theorem gM_f' {d : D} : gM .f d = gd (isF d) := rfl
@[simp] theorem gM_o' {d : D} : gM .o d = gd (isF d) := rfl
@[simp] theorem tfn_z {e : Str × Nat × (List D → R D)} {t : Tbl} : tfn (e :: t) 0 = e.2.2 := rfl
@[simp] theorem tfn_s {e : Str × Nat × (List D → R D)} {t : Tbl} {k : Nat} : tfn (e :: t) (k + 1) = tfn t k := by
  unfold tfn
  rw [List.getElem?_cons_succ]
@[simp] theorem beq_ff : (M.f == M.o) = false := rfl
@[simp] theorem beq_bo : (M.b == M.o) = false := rfl
@[simp] theorem beq_oo : (M.o == M.o) = true := rfl
end

/-- a while loop: so many turns -/
theorem whL_turns {c : Env → R Bool} {b : Env → RS} {kl : List Nat} (E : Nat → Env) : ∀ {j k n : Nat}, k ≤ j → j - k < n → (∀ i, k ≤ i → i < j → c (E i) = .ok true ∧ ((b (E i)).thn fun e => .nx (wipeE e kl)) = .nx (E (i + 1))) → c (E j) = .ok false → whL c b kl n (E k) = .nx (E j)
  | j, k, 0, _, h, _, _ => absurd h (Nat.not_lt_zero _)
  | j, k, n + 1, hk, h, hs, hf => by
    rw [whL]
    by_cases e : k = j
    · subst e
      rw [hf]; rfl
    · obtain ⟨h1, h2⟩ := hs k (Nat.le_refl _) (by omega)
      rw [h1]
      show ((b (E k)).thn fun env2 => whL c b kl n (wipeE env2 kl)) = _
      have ih := whL_turns (c := c) (b := b) (kl := kl) E (j := j) (k := k + 1) (n := n) (by omega) (by omega) (fun i hi hj => hs i (by omega) hj) hf
      rw [← ih]
      have : ∀ r : RS, (r.thn fun e => .nx (wipeE e kl)) = .nx (E (k + 1)) → (r.thn fun e => whL c b kl n (wipeE e kl)) = whL c b kl n (E (k + 1)) := by
        intro r hr
        cases r with
        | nx e =>
          have : RS.nx (wipeE e kl) = .nx (E (k + 1)) := hr
          injection this with q
          show whL c b kl n (wipeE e kl) = _
          rw [q]
        | rt d e => exact absurd hr (by intro h; cases h)
        | ex x => exact absurd hr (by intro h; cases h)
        | fail => exact absurd hr (by intro h; cases h)
      exact this _ h2

def fin : RS → R D
  | .rt d _ => .ok d
  | .nx _ => .ok .non
  | .ex x => .exc x
  | .fail => .fail
theorem evDef_fin {Φ : Nat → List D → R D} {cst : Str → Option D} {n N : Nat} {body : CSs} {ds : List D} : evDef Φ cst n N body ds = fin (evSs Φ cst n body (ds.map some ++ List.replicate (N - ds.length) none)) := by
  unfold evDef fin
  rfl
@[simp] theorem fin_rt {d : D} {e : Env} : fin (.rt d e) = .ok d := rfl
@[simp] theorem fin_nx {e : Env} : fin (.nx e) = .ok .non := rfl
@[simp] theorem fin_ite {c : Prop} [Decidable c] {a b : RS} : fin (if c then a else b) = if c then fin a else fin b := by split <;> rfl
@[simp] theorem thn_ite {c : Prop} [Decidable c] {a b : RS} {f : Env → RS} : (if c then a else b).thn f = if c then a.thn f else b.thn f := by split <;> rfl
@[simp] theorem s_ite {α : Type} {c : Prop} [Decidable c] {a b : R α} {f : α → RS} : (if c then a else b).s f = if c then a.s f else b.s f := by split <;> rfl
@[simp] theorem bind_ite {α β : Type} {c : Prop} [Decidable c] {a b : R α} {f : α → R β} : ((if c then a else b) >>= f) = if c then a >>= f else b >>= f := by split <;> rfl

@[simp] theorem and_ite {p : Prop} [Decidable p] {x : Bool} : (if p then R.ok x else R.ok (decide p)) = R.ok (decide p && x) := by by_cases h : p <;> simp [h]
@[simp] theorem or_ite {p : Prop} [Decidable p] {x : Bool} : (if p then R.ok (decide p) else R.ok x) = R.ok (decide p || x) := by by_cases h : p <;> simp [h]
@[simp] theorem and_iteB {b x : Bool} : (if b = true then R.ok x else R.ok b) = R.ok (b && x) := by cases b <;> rfl
@[simp] theorem or_iteB {b x : Bool} : (if b = false then R.ok x else R.ok b) = R.ok (b || x) := by cases b <;> rfl
/-- a loop over a list of codes, that only goes on -/
theorem forL_foldM {S α : Type} {b : Env → RS} {ct : CT} {kl : List Nat} (h : α → D) (E : S → Env) (g : S → α → S) (P : Nat → S → Prop) : ∀ {xs : List α} {s0 : S} {i0 : Nat},
    (∀ i s x, P i s → x ∈ xs → i0 ≤ i → i < i0 + xs.length → stepL b ct kl (E s) (h x) = .nx (E (g s x)) ∧ P (i + 1) (g s x)) → P i0 s0 →
    forL b ct kl (xs.map h) (E s0) = .nx (E (xs.foldl g s0)) ∧ P (i0 + xs.length) (xs.foldl g s0)
  | [], s0, i0, _, p => ⟨rfl, p⟩
  | x :: xs, s0, i0, hs, p => by
    obtain ⟨h1, h2⟩ := hs i0 s0 x p (by simp) (Nat.le_refl _) (by simp)
    rw [List.map_cons, forL_cons, h1]
    have := forL_foldM (b := b) (ct := ct) (kl := kl) h E g P (xs := xs) (s0 := g s0 x) (i0 := i0 + 1) (fun i s y ps hy hi hj => hs i s y ps (List.mem_cons_of_mem _ hy) (by omega) (by simp; omega)) h2
    refine ⟨this.1, ?_⟩
    rw [List.length_cons, show i0 + (xs.length + 1) = i0 + 1 + xs.length by omega]
    exact this.2
theorem forL_or {b : Env → RS} {ct : CT} {kl : List Nat} {E : Env} (Q : D → Prop) : ∀ {xs : List D}, (∀ x ∈ xs, stepL b ct kl E x = .nx E ∨ ∃ d e, stepL b ct kl E x = .rt d e ∧ Q d) → forL b ct kl xs E = .nx E ∨ ∃ d e, forL b ct kl xs E = .rt d e ∧ Q d
  | [], _ => .inl rfl
  | x :: xs, h => by
    rw [forL_cons]
    rcases h x (by simp) with h1 | ⟨d, e, h1, h2⟩
    · rw [h1]
      exact forL_or (b := b) (ct := ct) (kl := kl) (E := E) Q (xs := xs) fun y hy => h y (List.mem_cons_of_mem _ hy)
    · rw [h1]
      exact .inr ⟨d, e, rfl, h2⟩
end TI
set_option Elab.async false
set_option linter.all false
/-! PL2: more rules of the interpreter. -/
namespace TI
open PySem L2
section
variable {Φ : Nat → List D → R D} {cst : Str → Option D} {n : Nat} {env : Env} {m : M}
@[simp] theorem r_rett {i j : Nat} : evS Φ cst n (.rett i j) env = (getv env i).s fun d => (getv env j).s fun e => (gd (decide (i ≠ j))).s fun _ => .rt (.pr [d, e]) ((env.set i none).set j none) := by rw [evS]
@[simp] theorem r_unpo {i j : Nat} {e : CE} : evS Φ cst n (.unpo i j e) env = (evX Φ cst .o e env).s fun d => (asPr2 d).s fun p => (gd (decide (i ≠ j))).s fun _ => .nx ((env.set i (some p.1)).set j (some p.2)) := by rw [evS]
@[simp] theorem r_clr {i : Nat} : evS Φ cst n (.clr i) env = (ownL env i).s fun _ => .nx (env.set i (some (.lst true []))) := by rw [evS]
@[simp] theorem x_callb {g : Nat} {es : CEs} : evX Φ cst m (.callb g es) env = (do let ds ← evb Φ cst es env; let d ← (Φ g (fzs ds)).noX; gd (flatD d); .ok d) := by rw [evX]
@[simp] theorem x_listb {a : CE} : evX Φ cst m (.listb a) env = (do let x ← evX Φ cst .b a env; gd (kidsF x); biD .list (m == .o) [x]) := by rw [evX]
@[simp] theorem x_isb {neg : Bool} {a : CE} : evX Φ cst m (.isb neg a) env = (do let x ← evX Φ cst .b a env; .ok (.bl (if neg = true then !isNon x else isNon x))) := by rw [evX]
@[simp] theorem sb_nil : evb Φ cst .nil env = .ok [] := by rw [evb]
@[simp] theorem sb_cons {e : CE} {es : CEs} : evb Φ cst (.cons e es) env = (do let d ← evX Φ cst .b e env; let ds ← evb Φ cst es env; .ok (d :: ds)) := by rw [evb]
@[simp] theorem fzs_nil : fzs [] = [] := by rw [fzs]
@[simp] theorem fzs_cons {d : D} {ds : List D} : fzs (d :: ds) = fz d :: fzs ds := by rw [fzs]
end
end TI
set_option Elab.async false
set_option linter.all false
set_option maxRecDepth 100000
/-! the program of the row plait_k44_papers_of_unlike: its defs as functions -/
namespace K44
open PySem PySem.Spec PyProof.Rows L2 TI
def topS (i : Nat) : Stmt := PySem.Challenge.pw_plait_k44_papers_of_unlike.main.body.getD i (.Pass ⟨0, 0, 0, 0⟩)
def cst : Str → Option D := fun x => if x = "MOST_ALIKE" then some (.int 6) else none
abbrev N_asked_alike : List Str := ["one", "other"]
def c_asked_alike : CSs := (.cons (.ifs (.bo false (.cons (.val (.cmp .Gt (.len (.var 0)) (.gc "MOST_ALIKE"))) (.cons (.val (.cmp .Gt (.len (.var 1)) (.gc "MOST_ALIKE"))) .nil))) (.cons .bad .nil) .nil) .nil)
def f_asked_alike : List D → R D := evDef (tfn []) cst 2000 2 c_asked_alike
theorem m_asked_alike : mDef N_asked_alike ["one", "other"] (tnm []) cst c_asked_alike (topS 5) = true := by decide +kernel
abbrev N_breach_of : List Str := ["one", "other", "images", "count", "a", "b", "met"]
def b_breach_of_1 : CSs := (.cons (.set 6 .f (.ix (.ix (.var 0) (.var 4)) (.var 5))) (.cons (.ifs (.bo true (.cons (.val (.cmp .Lt (.var 6) (.var 3))) (.cons (.val (.cmp .NotEq (.ix (.ix (.var 1) (.ix (.var 2) (.var 4))) (.ix (.var 2) (.var 5))) (.ix (.var 2) (.var 6)))) .nil))) (.cons (.ret (.tup (.cons (.var 4) (.cons (.var 5) .nil)))) .nil) .nil) .nil))
def b_breach_of_2 : CSs := (.cons (.fors (.one 5) (.rng1 (.var 3)) [5, 6] b_breach_of_1) .nil)
def c_breach_of : CSs := (.cons (.set 3 .f (.len (.var 2))) (.cons (.fors (.one 4) (.rng1 (.var 3)) [4, 5, 6] b_breach_of_2) (.cons (.ret .non) .nil)))
def f_breach_of : List D → R D := evDef (tfn []) cst 2000 7 c_breach_of
theorem m_breach_of : mDef N_breach_of ["one", "other", "images"] (tnm []) cst c_breach_of (topS 6) = true := by decide +kernel
abbrev N_longer_by_one : List Str := ["images", "size", "one"]
def q_longer_by_one_1 : CB := (.val (.cmp .NotIn (.var 2) (.var 0)))
def x_longer_by_one_1 : CE := (.bin .Add (.var 0) (.lst (.cons (.var 2) .nil)))
def c_longer_by_one : CSs := (.cons (.ret (.comp (.one 2) (.rng1 (.var 1)) true q_longer_by_one_1 x_longer_by_one_1)) .nil)
def f_longer_by_one : List D → R D := evDef (tfn []) cst 2000 3 c_longer_by_one
theorem m_longer_by_one : mDef N_longer_by_one ["images", "size"] (tnm []) cst c_longer_by_one (topS 7) = true := by decide +kernel
abbrev N_looked_through : List Str := ["one", "other", "found", "paper", "k", "standing", "images", "longer", "breach"]
def b_looked_through_1 : CSs := (.cons (.set 8 .f (.call 1 (.cons (.var 0) (.cons (.var 1) (.cons (.var 7) .nil))))) (.cons (.ifs (.val (.cmp .Is (.var 8) .non)) (.cons (.app 5 (.var 7)) .nil) (.cons (.app 3 (.tup (.cons (.bi .tuple (.cons (.var 7) .nil)) (.cons (.ix (.var 8) (.int 0)) (.cons (.ix (.var 8) (.int 1)) .nil))))) .nil)) .nil))
def b_looked_through_2 : CSs := (.cons (.fors (.one 7) (.ex (.call 0 (.cons (.var 6) (.cons (.len (.var 0)) .nil)))) [7, 8] b_looked_through_1) .nil)
def b_looked_through_3 : CSs := (.cons (.set 5 .o (.lst .nil)) (.cons (.fors (.one 6) (.ex (.var 2)) [6, 7, 8] b_looked_through_2) (.cons (.frz 5) (.cons (.set 2 .f (.var 5)) .nil))))
def c_looked_through : CSs := (.cons (.set 2 .f (.lst (.cons (.lst .nil) .nil))) (.cons (.set 3 .o (.lst .nil)) (.cons (.fors (.one 4) (.rng1 (.len (.var 0))) [4, 5, 6, 7, 8] b_looked_through_3) (.cons (.rett 2 3) .nil))))
def f_looked_through : List D → R D := evDef (tfn [("longer_by_one", 2, f_longer_by_one), ("breach_of", 3, f_breach_of)]) cst 2000 9 c_looked_through
theorem m_looked_through : mDef N_looked_through ["one", "other"] (tnm [("longer_by_one", 2, f_longer_by_one), ("breach_of", 3, f_breach_of)]) cst c_looked_through (topS 8) = true := by decide +kernel
abbrev N_unlike : List Str := ["one", "other", "found", "paper"]
def c_unlike : CSs := (.cons (.exp (.call 0 (.cons (.var 0) (.cons (.var 1) .nil)))) (.cons (.ifs (.val (.cmp .NotEq (.len (.var 0)) (.len (.var 1)))) (.cons (.ret (.lst .nil)) .nil) .nil) (.cons (.unpo 2 3 (.call 1 (.cons (.var 0) (.cons (.var 1) .nil)))) (.cons (.ifs (.val (.cmp .Gt (.len (.var 2)) (.int 0))) (.cons (.ret .non) .nil) .nil) (.cons (.retv 3) .nil)))))
def f_unlike : List D → R D := evDef (tfn [("asked_alike", 2, f_asked_alike), ("looked_through", 2, f_looked_through)]) cst 2000 4 c_unlike
theorem m_unlike : mDef N_unlike ["one", "other"] (tnm [("asked_alike", 2, f_asked_alike), ("looked_through", 2, f_looked_through)]) cst c_unlike (topS 9) = true := by decide +kernel
abbrev N_breaks_there : List Str := ["one", "other", "images", "a", "b", "colour", "met"]
def b_breaks_there_1 : CSs := (.cons (.ifs (.no (.val (.chn .LtE .Lt (.int 0) (.var 5) (.len (.var 1))))) (.cons (.ret (.bl false)) .nil) .nil) .nil)
def c_breaks_there : CSs := (.cons (.ifs (.val (.cmp .NotEq (.lset (.var 2)) (.len (.var 2)))) (.cons (.ret (.bl false)) .nil) .nil) (.cons (.fors (.one 5) (.ex (.var 2)) [5] b_breaks_there_1) (.cons (.ifs (.bo false (.cons (.no (.val (.chn .LtE .Lt (.int 0) (.var 3) (.len (.var 2))))) (.cons (.no (.val (.chn .LtE .Lt (.int 0) (.var 4) (.len (.var 2))))) .nil))) (.cons (.ret (.bl false)) .nil) .nil) (.cons (.set 6 .f (.ix (.ix (.var 0) (.var 3)) (.var 4))) (.cons (.ret (.bo true (.cons (.cmp .Lt (.var 6) (.len (.var 2))) (.cons (.cmp .NotEq (.ix (.ix (.var 1) (.ix (.var 2) (.var 3))) (.ix (.var 2) (.var 4))) (.ix (.var 2) (.var 6))) .nil)))) .nil)))))
def f_breaks_there : List D → R D := evDef (tfn []) cst 2000 7 c_breaks_there
theorem m_breaks_there : mDef N_breaks_there ["one", "other", "images", "a", "b"] (tnm []) cst c_breaks_there (topS 10) = true := by decide +kernel
abbrev N_shuts : List Str := ["one", "other", "paper", "shut", "found", "k", "images", "a", "b", "standing", "longer"]
def b_shuts_1 : CSs := (.cons (.ifs (.val (.call 1 (.cons (.var 0) (.cons (.var 1) (.cons (.var 6) (.cons (.var 7) (.cons (.var 8) .nil))))))) (.cons (.dput 3 (.bi .tuple (.cons (.var 6) .nil)) (.bl true)) .nil) .nil) .nil)
def q_shuts_1 : CB := (.val (.din true (.bi .tuple (.cons (.var 10) .nil)) (.var 3)))
def x_shuts_1 : CE := (.var 10)
def b_shuts_2 : CSs := (.cons (.ext 9 (.comp (.one 10) (.ex (.call 2 (.cons (.var 6) (.cons (.len (.var 0)) .nil)))) true q_shuts_1 x_shuts_1)) .nil)
def b_shuts_3 : CSs := (.cons (.set 9 .o (.lst .nil)) (.cons (.fors (.one 6) (.ex (.var 4)) [6] b_shuts_2) (.cons (.frz 9) (.cons (.set 4 .f (.var 9)) .nil))))
def c_shuts : CSs := (.cons (.exp (.call 0 (.cons (.var 0) (.cons (.var 1) .nil)))) (.cons (.ifs (.val (.cmp .NotEq (.len (.var 0)) (.len (.var 1)))) (.cons (.ret (.bl true)) .nil) .nil) (.cons (.set 3 .o (.dnew true)) (.cons (.fors (.many [6, 7, 8]) (.ex (.var 2)) [6, 7, 8] b_shuts_1) (.cons (.set 4 .f (.lst (.cons (.lst .nil) .nil))) (.cons (.fors (.one 5) (.rng1 (.len (.var 0))) [5, 6, 9] b_shuts_3) (.cons (.ret (.cmp .Eq (.len (.var 4)) (.int 0))) .nil)))))))
def f_shuts : List D → R D := evDef (tfn [("asked_alike", 2, f_asked_alike), ("breaks_there", 5, f_breaks_there), ("longer_by_one", 2, f_longer_by_one)]) cst 2000 11 c_shuts
theorem m_shuts : mDef N_shuts ["one", "other", "paper"] (tnm [("asked_alike", 2, f_asked_alike), ("breaks_there", 5, f_breaks_there), ("longer_by_one", 2, f_longer_by_one)]) cst c_shuts (topS 11) = true := by decide +kernel
abbrev N_cell : List Str := ["_law_script", "_law_place", "_law_seed", "_law_cell_here"]
def b_cell_1 : CSs := (.cons (.set 2 .f (.bin .Mod (.bin .Add (.bin .Add (.bin .Mult (.var 2) (.int 48271)) (.bin .Mod (.var 3) (.int 1000003))) (.int 1)) (.int 2147483647))) .nil)
def c_cell : CSs := (.cons (.ifs (.val (.cmp .Lt (.var 1) (.len (.var 0)))) (.cons (.ret (.ix (.var 0) (.var 1))) .nil) .nil) (.cons (.set 2 .f (.int 5)) (.cons (.fors (.one 3) (.ex (.sl (.var 0) .none (.some (.int 63)))) [3] b_cell_1) (.cons (.ret (.bin .Mod (.bin .Add (.var 2) (.bin .Mult (.int 7919) (.var 1))) (.int 1000003))) .nil))))
def f_cell : List D → R D := evDef (tfn []) cst 2000 4 c_cell
theorem m_cell : mDef N_cell ["_law_script", "_law_place"] (tnm []) cst c_cell (topS 13) = true := by decide +kernel
abbrev N_mix : List Str := ["_law_cell_here", "_law_k", "_law_one", "_law_two"]
def c_mix : CSs := (.cons (.set 2 .f (.bin .Mod (.bin .Pow (.bin .Add (.bin .Add (.bin .Mod (.var 0) (.int 2147483629)) (.bin .Mult (.int 1013) (.var 1))) (.int 7919)) (.int 3)) (.int 2147483647))) (.cons (.set 3 .f (.bin .Mod (.bin .Add (.bin .Add (.bin .Mult (.var 2) (.int 40699)) (.bin .Mult (.bin .Mult (.int 3793) (.var 1)) (.var 1))) (.int 11)) (.int 2147483399))) (.cons (.ret (.bin .FloorDiv (.var 3) (.int 101))) .nil)))
def f_mix : List D → R D := evDef (tfn []) cst 2000 4 c_mix
theorem m_mix : mDef N_mix ["_law_cell_here", "_law_k"] (tnm []) cst c_mix (topS 14) = true := by decide +kernel
abbrev N_row : List Str := ["_law_script", "_law_place", "_law_sizes", "_law_cell_here", "_law_left", "_law_some", "_law_k", "_law_other"]
def b_row_1 : CSs := (.cons (.ifs (.val (.cmp .Lt (.var 3) (.bin .Pow (.int 10) (.int 18)))) (.cons (.app 5 (.bin .Mod (.call 1 (.cons (.var 3) (.cons (.var 6) .nil))) (.ix (.var 2) (.var 6)))) .nil) (.cons (.ifs (.val (.cmp .Gt (.var 4) (.int 0))) (.cons (.app 5 (.bin .Mod (.var 4) (.ix (.var 2) (.var 6)))) (.cons (.set 4 .f (.bin .FloorDiv (.var 4) (.ix (.var 2) (.var 6)))) .nil)) (.cons (.set 7 .f (.call 0 (.cons (.var 0) (.cons (.bin .Mod (.bin .Add (.bin .Add (.var 1) (.int 1)) (.var 6)) (.int 63)) .nil)))) (.cons (.app 5 (.bin .Mod (.call 1 (.cons (.var 7) (.cons (.var 6) .nil))) (.ix (.var 2) (.var 6)))) .nil))) .nil)) .nil)
def c_row : CSs := (.cons (.set 3 .f (.call 0 (.cons (.var 0) (.cons (.var 1) .nil)))) (.cons (.set 4 .f (.var 3)) (.cons (.set 5 .o (.lst .nil)) (.cons (.fors (.one 6) (.rng1 (.len (.var 2))) [6, 7] b_row_1) (.cons (.retv 5) .nil)))))
def f_row : List D → R D := evDef (tfn [("_law_cell", 2, f_cell), ("_law_mix", 2, f_mix)]) cst 2000 8 c_row
theorem m_row : mDef N_row ["_law_script", "_law_place", "_law_sizes"] (tnm [("_law_cell", 2, f_cell), ("_law_mix", 2, f_mix)]) cst c_row (topS 15) = true := by decide +kernel
abbrev N_cell_of : List Str := ["_law_way", "_law_size", "_law_factor", "_law_a", "_law_b", "_law_half"]
def c_cell_of : CSs := (.cons (.set 5 .f (.bin .FloorDiv (.var 1) (.int 2))) (.cons (.ifs (.val (.cmp .Eq (.var 0) (.int 1))) (.cons (.ret (.bin .Mod (.bin .Sub (.bin .Mult (.int 2) (.var 4)) (.var 3)) (.var 1))) .nil) .nil) (.cons (.ifs (.val (.cmp .Eq (.var 0) (.int 2))) (.cons (.ret (.bin .Mod (.bin .Add (.bin .Mult (.var 2) (.var 3)) (.bin .Mult (.bin .Sub (.int 1) (.var 2)) (.var 4))) (.var 1))) .nil) .nil) (.cons (.ifs (.bo true (.cons (.val (.cmp .Eq (.var 0) (.int 3))) (.cons (.val (.cmp .Gt (.var 1) (.int 2))) (.cons (.val (.cmp .Lt (.var 3) (.int 2))) (.cons (.val (.cmp .Eq (.var 4) (.bin .Sub (.var 1) (.int 1)))) .nil))))) (.cons (.ret (.bin .Sub (.int 1) (.var 3))) .nil) .nil) (.cons (.ifs (.bo true (.cons (.val (.cmp .Eq (.var 0) (.int 6))) (.cons (.val (.cmp .Lt (.var 3) (.bin .Sub (.var 1) (.int 1)))) (.cons (.val (.cmp .Eq (.var 4) (.bin .Sub (.var 1) (.int 1)))) .nil)))) (.cons (.ret (.bin .Mod (.bin .Add (.var 3) (.int 1)) (.bin .Sub (.var 1) (.int 1)))) .nil) .nil) (.cons (.ifs (.bo true (.cons (.val (.cmp .Eq (.var 0) (.int 4))) (.cons (.val (.cmp .Lt (.var 3) (.var 5))) (.cons (.val (.cmp .Lt (.var 4) (.var 5))) .nil)))) (.cons (.ret (.bin .Mod (.bin .Sub (.bin .Mult (.int 2) (.var 4)) (.var 3)) (.var 5))) .nil) .nil) (.cons (.ifs (.bo true (.cons (.val (.cmp .Eq (.var 0) (.int 4))) (.cons (.val (.cmp .GtE (.var 3) (.var 5))) (.cons (.val (.cmp .GtE (.var 4) (.var 5))) .nil)))) (.cons (.ret (.bin .Add (.var 5) (.bin .Mod (.bin .Sub (.bin .Sub (.bin .Mult (.int 2) (.var 4)) (.var 3)) (.var 5)) (.bin .Sub (.var 1) (.var 5))))) .nil) .nil) (.cons (.ret (.var 3)) .nil))))))))
def f_cell_of : List D → R D := evDef (tfn []) cst 2000 6 c_cell_of
theorem m_cell_of : mDef N_cell_of ["_law_way", "_law_size", "_law_factor", "_law_a", "_law_b"] (tnm []) cst c_cell_of (topS 16) = true := by decide +kernel
abbrev N_common : List Str := ["_law_one", "_law_other"]
def w_common_1 : CB := (.val (.cmp .Gt (.var 1) (.int 0)))
def b_common_1 : CSs := (.cons (.par 0 1 (.var 1) (.bin .Mod (.var 0) (.var 1))) .nil)
def c_common : CSs := (.cons (.par 0 1 (.bi .abs (.cons (.var 0) .nil)) (.bi .abs (.cons (.var 1) .nil))) (.cons (.whil w_common_1 [] b_common_1) (.cons (.ret (.var 0)) .nil)))
def f_common : List D → R D := evDef (tfn []) cst 2000 2 c_common
theorem m_common : mDef N_common ["_law_one", "_law_other"] (tnm []) cst c_common (topS 17) = true := by decide +kernel
abbrev N_made : List Str := ["_law_way", "_law_size", "_law_factor", "_law_some", "_law_a", "_law_b"]
def w_made_1 : CB := (.val (.cmp .NotEq (.call 0 (.cons (.var 2) (.cons (.var 1) .nil))) (.int 1)))
def b_made_1 : CSs := (.cons (.set 2 .f (.bin .Add (.var 2) (.int 1))) .nil)
def x_made_1 : CE := (.call 1 (.cons (.var 0) (.cons (.var 1) (.cons (.var 2) (.cons (.var 4) (.cons (.var 5) .nil))))))
def b_made_2 : CSs := (.cons (.app 3 (.comp (.one 5) (.rng1 (.var 1)) false (.val .non) x_made_1)) .nil)
def c_made : CSs := (.cons (.ifs (.bo true (.cons (.val (.cmp .Eq (.var 0) (.int 5))) (.cons (.val (.cmp .Eq (.var 1) (.int 4))) .nil))) (.cons (.ret (.lst (.cons (.lst (.cons (.int 0) (.cons (.int 3) (.cons (.int 1) (.cons (.int 2) .nil))))) (.cons (.lst (.cons (.int 2) (.cons (.int 1) (.cons (.int 3) (.cons (.int 0) .nil))))) (.cons (.lst (.cons (.int 3) (.cons (.int 0) (.cons (.int 2) (.cons (.int 1) .nil))))) (.cons (.lst (.cons (.int 1) (.cons (.int 2) (.cons (.int 0) (.cons (.int 3) .nil))))) .nil)))))) .nil) .nil) (.cons (.whil w_made_1 [] b_made_1) (.cons (.set 3 .o (.lst .nil)) (.cons (.fors (.one 4) (.rng1 (.var 1)) [4] b_made_2) (.cons (.retv 3) .nil)))))
def f_made : List D → R D := evDef (tfn [("_law_common", 2, f_common), ("_law_cell_of", 5, f_cell_of)]) cst 2000 6 c_made
theorem m_made : mDef N_made ["_law_way", "_law_size", "_law_factor"] (tnm [("_law_common", 2, f_common), ("_law_cell_of", 5, f_cell_of)]) cst c_made (topS 18) = true := by decide +kernel
abbrev N_ordered : List Str := ["_law_some", "_law_count", "_law_left", "_law_found", "_law_k"]
def b_ordered_1 : CSs := (.cons (.appPop 3 2 (.bin .Mod (.ix (.var 0) (.var 4)) (.len (.var 2)))) .nil)
def c_ordered : CSs := (.cons (.set 2 .o (.rngl (.var 1))) (.cons (.set 3 .o (.lst .nil)) (.cons (.fors (.one 4) (.rng1 (.var 1)) [4] b_ordered_1) (.cons (.retv 3) .nil))))
def f_ordered : List D → R D := evDef (tfn []) cst 2000 5 c_ordered
theorem m_ordered : mDef N_ordered ["_law_some", "_law_count"] (tnm []) cst c_ordered (topS 19) = true := by decide +kernel
abbrev N_relaid : List Str := ["_law_some", "_law_spots", "_law_found", "_law_a", "_law_b", "_law_line"]
def x_relaid_1 : CE := (.bi .list (.cons (.var 5) .nil))
def b_relaid_1 : CSs := (.cons (.setIx2 2 (.ix (.var 1) (.var 3)) (.ix (.var 1) (.var 4)) (.ix (.var 1) (.ix (.ix (.var 0) (.var 3)) (.var 4)))) .nil)
def b_relaid_2 : CSs := (.cons (.fors (.one 4) (.rng1 (.len (.var 0))) [4] b_relaid_1) .nil)
def c_relaid : CSs := (.cons (.set 2 .o (.comp (.one 5) (.ex (.var 0)) false (.val .non) x_relaid_1)) (.cons (.fors (.one 3) (.rng1 (.len (.var 0))) [3, 4] b_relaid_2) (.cons (.retv 2) .nil)))
def f_relaid : List D → R D := evDef (tfn []) cst 2000 6 c_relaid
theorem m_relaid : mDef N_relaid ["_law_some", "_law_spots"] (tnm []) cst c_relaid (topS 20) = true := by decide +kernel
abbrev N_table : List Str := ["_law_script", "_law_place", "_law_most", "_law_some", "_law_size", "_law_found"]
def c_table : CSs := (.cons (.set 3 .f (.call 0 (.cons (.var 0) (.cons (.var 1) (.cons (.bin .Add (.lst (.cons (.int 7) (.cons (.int 24) (.cons (.int 6) (.cons (.int 2) .nil))))) (.bin .Mult (.lst (.cons (.int 24) .nil)) (.int 24))) .nil))))) (.cons (.set 4 .f (.bin .Add (.int 1) (.bin .Mod (.ix (.var 3) (.int 1)) (.var 2)))) (.cons (.set 5 .f (.call 1 (.cons (.ix (.var 3) (.int 0)) (.cons (.var 4) (.cons (.bin .Add (.int 2) (.ix (.var 3) (.int 2))) .nil))))) (.cons (.ifs (.val (.cmp .Eq (.ix (.var 3) (.int 3)) (.int 0))) (.cons (.ret (.var 5)) .nil) .nil) (.cons (.ret (.call 2 (.cons (.var 5) (.cons (.call 3 (.cons (.sl (.var 3) (.some (.int 4)) .none) (.cons (.var 4) .nil))) .nil)))) .nil)))))
def f_table : List D → R D := evDef (tfn [("_law_row", 3, f_row), ("_law_made", 3, f_made), ("_law_relaid", 2, f_relaid), ("_law_ordered", 2, f_ordered)]) cst 2000 6 c_table
theorem m_table : mDef N_table ["_law_script", "_law_place", "_law_most"] (tnm [("_law_row", 3, f_row), ("_law_made", 3, f_made), ("_law_relaid", 2, f_relaid), ("_law_ordered", 2, f_ordered)]) cst c_table (topS 21) = true := by decide +kernel
abbrev N_stands : List Str := ["_law_one", "_law_other", "_law_images", "_law_count", "_law_a", "_law_b", "_law_met"]
def b_stands_1 : CSs := (.cons (.set 6 .f (.ix (.ix (.var 0) (.var 4)) (.var 5))) (.cons (.ifs (.bo true (.cons (.val (.cmp .Lt (.var 6) (.var 3))) (.cons (.val (.cmp .NotEq (.ix (.ix (.var 1) (.ix (.var 2) (.var 4))) (.ix (.var 2) (.var 5))) (.ix (.var 2) (.var 6)))) .nil))) (.cons (.ret (.bl false)) .nil) .nil) .nil))
def b_stands_2 : CSs := (.cons (.fors (.one 5) (.rng1 (.var 3)) [5, 6] b_stands_1) .nil)
def c_stands : CSs := (.cons (.set 3 .f (.len (.var 2))) (.cons (.fors (.one 4) (.rng1 (.var 3)) [4, 5, 6] b_stands_2) (.cons (.ret (.bl true)) .nil)))
def f_stands : List D → R D := evDef (tfn []) cst 2000 7 c_stands
theorem m_stands : mDef N_stands ["_law_one", "_law_other", "_law_images"] (tnm []) cst c_stands (topS 22) = true := by decide +kernel
abbrev N_longer : List Str := ["_law_images", "_law_size", "_law_colour"]
def q_longer_1 : CB := (.val (.cmp .NotIn (.var 2) (.var 0)))
def x_longer_1 : CE := (.bin .Add (.var 0) (.lst (.cons (.var 2) .nil)))
def c_longer : CSs := (.cons (.ret (.comp (.one 2) (.rng1 (.var 1)) true q_longer_1 x_longer_1)) .nil)
def f_longer : List D → R D := evDef (tfn []) cst 2000 3 c_longer
theorem m_longer : mDef N_longer ["_law_images", "_law_size"] (tnm []) cst c_longer (topS 23) = true := by decide +kernel
abbrev N_every : List Str := ["_law_one", "_law_other", "_law_found", "_law_k", "_law_standing", "_law_images", "_law_longer_here"]
def b_every_1 : CSs := (.cons (.ifs (.val (.call 1 (.cons (.var 0) (.cons (.var 1) (.cons (.var 6) .nil))))) (.cons (.app 4 (.var 6)) .nil) .nil) .nil)
def b_every_2 : CSs := (.cons (.fors (.one 6) (.ex (.call 0 (.cons (.var 5) (.cons (.len (.var 0)) .nil)))) [6] b_every_1) .nil)
def b_every_3 : CSs := (.cons (.set 4 .o (.lst .nil)) (.cons (.fors (.one 5) (.ex (.var 2)) [5, 6] b_every_2) (.cons (.frz 4) (.cons (.set 2 .f (.var 4)) .nil))))
def c_every : CSs := (.cons (.ifs (.val (.cmp .NotEq (.len (.var 0)) (.len (.var 1)))) (.cons (.ret (.lst .nil)) .nil) .nil) (.cons (.set 2 .f (.lst (.cons (.lst .nil) .nil))) (.cons (.fors (.one 3) (.rng1 (.len (.var 0))) [3, 4, 5, 6] b_every_3) (.cons (.ret (.var 2)) .nil))))
def f_every : List D → R D := evDef (tfn [("_law_longer", 2, f_longer), ("_law_stands", 3, f_stands)]) cst 2000 7 c_every
theorem m_every : mDef N_every ["_law_one", "_law_other"] (tnm [("_law_longer", 2, f_longer), ("_law_stands", 3, f_stands)]) cst c_every (topS 24) = true := by decide +kernel
abbrev N_copied : List Str := ["_law_some", "_law_line"]
def x_copied_1 : CE := (.bi .list (.cons (.var 1) .nil))
def c_copied : CSs := (.cons (.ret (.comp (.one 1) (.ex (.var 0)) false (.val .non) x_copied_1)) .nil)
def f_copied : List D → R D := evDef (tfn []) cst 2000 2 c_copied
theorem m_copied : mDef N_copied ["_law_some"] (tnm []) cst c_copied (topS 25) = true := by decide +kernel
abbrev N_rare : List Str := ["_law_way", "_law_size", "_law_found", "_law_a", "_law_line", "_law_b", "_law_one"]
def b_rare_1 : CSs := (.cons (.set 6 .f (.var 3)) (.cons (.ifs (.bo true (.cons (.val (.cmp .Eq (.var 0) (.int 0))) (.cons (.val (.cmp .Lt (.var 3) (.int 2))) (.cons (.val (.cmp .GtE (.var 5) (.bin .Sub (.var 1) (.int 2)))) .nil)))) (.cons (.set 6 .f (.bin .Sub (.int 1) (.var 3))) .nil) .nil) (.cons (.ifs (.bo true (.cons (.val (.cmp .Eq (.var 0) (.int 1))) (.cons (.val (.cmp .Lt (.var 3) (.int 3))) (.cons (.val (.cmp .Lt (.var 5) (.int 3))) .nil)))) (.cons (.set 6 .f (.bin .Mod (.bin .Sub (.bin .Mult (.int 2) (.var 5)) (.var 3)) (.int 3))) .nil) .nil) (.cons (.app 4 (.var 6)) .nil))))
def b_rare_2 : CSs := (.cons (.set 4 .o (.lst .nil)) (.cons (.fors (.one 5) (.rng1 (.var 1)) [5, 6] b_rare_1) (.cons (.frz 4) (.cons (.app 2 (.var 4)) .nil))))
def c_rare : CSs := (.cons (.set 2 .o (.lst .nil)) (.cons (.fors (.one 3) (.rng1 (.var 1)) [3, 4, 5, 6] b_rare_2) (.cons (.retv 2) .nil)))
def f_rare : List D → R D := evDef (tfn []) cst 2000 7 c_rare
theorem m_rare : mDef N_rare ["_law_way", "_law_size"] (tnm []) cst c_rare (topS 26) = true := by decide +kernel
abbrev N_pair : List Str := ["_law_script", "_law_most", "_law_some", "_law_one", "_law_rare_here", "_law_other"]
def c_pair : CSs := (.cons (.set 2 .f (.call 0 (.cons (.var 0) (.cons (.int 2) (.cons (.bin .Add (.lst (.cons (.int 3) .nil)) (.bin .Mult (.lst (.cons (.int 24) .nil)) (.int 8))) .nil))))) (.cons (.set 3 .f (.call 1 (.cons (.var 0) (.cons (.int 0) (.cons (.var 1) .nil))))) (.cons (.set 4 .f (.call 0 (.cons (.var 0) (.cons (.int 6) (.cons (.lst (.cons (.int 5) (.cons (.int 2) .nil))) .nil))))) (.cons (.ifs (.bo true (.cons (.val (.cmp .Eq (.ix (.var 4) (.int 0)) (.int 0))) (.cons (.val (.cmp .Gt (.len (.var 3)) (.int 3))) .nil))) (.cons (.set 3 .f (.call 2 (.cons (.ix (.var 4) (.int 1)) (.cons (.len (.var 3)) .nil)))) .nil) .nil) (.cons (.ifs (.val (.cmp .Gt (.ix (.var 2) (.int 0)) (.int 0))) (.cons (.ret (.tup (.cons (.var 3) (.cons (.call 3 (.cons (.var 3) (.cons (.call 4 (.cons (.sl (.var 2) (.some (.int 1)) .none) (.cons (.len (.var 3)) .nil))) .nil))) .nil)))) .nil) .nil) (.cons (.set 5 .f (.call 1 (.cons (.var 0) (.cons (.int 1) (.cons (.var 1) .nil))))) (.cons (.ifs (.bo true (.cons (.val (.cmp .NotEq (.len (.var 5)) (.len (.var 3)))) (.cons (.val (.cmp .Gt (.bin .Mod (.ix (.var 2) (.int 1)) (.int 3)) (.int 0))) .nil))) (.cons (.set 5 .f (.call 5 (.cons (.bin .Mod (.ix (.var 2) (.int 2)) (.int 7)) (.cons (.len (.var 3)) (.cons (.bin .Add (.int 1) (.ix (.var 2) (.int 3))) .nil))))) .nil) .nil) (.cons (.ret (.tup (.cons (.var 3) (.cons (.var 5) .nil)))) .nil))))))))
def f_pair : List D → R D := evDef (tfn [("_law_row", 3, f_row), ("_law_table", 3, f_table), ("_law_rare", 2, f_rare), ("_law_relaid", 2, f_relaid), ("_law_ordered", 2, f_ordered), ("_law_made", 3, f_made)]) cst 2000 6 c_pair
theorem m_pair : mDef N_pair ["_law_script", "_law_most"] (tnm [("_law_row", 3, f_row), ("_law_table", 3, f_table), ("_law_rare", 2, f_rare), ("_law_relaid", 2, f_relaid), ("_law_ordered", 2, f_ordered), ("_law_made", 3, f_made)]) cst c_pair (topS 27) = true := by decide +kernel
abbrev N_breaks : List Str := ["_law_one", "_law_other", "_law_images", "_law_a", "_law_b", "_law_colour", "_law_met"]
def b_breaks_1 : CSs := (.cons (.ifs (.bo false (.cons (.no (.val (.chn .LtE .Lt (.int 0) (.var 5) (.len (.var 1))))) (.cons (.val (.cmp .Gt (.tcount (.var 2) (.var 5)) (.int 1))) .nil))) (.cons (.ret (.bl false)) .nil) .nil) .nil)
def c_breaks : CSs := (.cons (.fors (.one 5) (.ex (.var 2)) [5] b_breaks_1) (.cons (.ifs (.bo false (.cons (.val (.cmp .Lt (.bi .min2 (.cons (.var 3) (.cons (.var 4) .nil))) (.int 0))) (.cons (.val (.cmp .GtE (.bi .max2 (.cons (.var 3) (.cons (.var 4) .nil))) (.len (.var 2)))) .nil))) (.cons (.ret (.bl false)) .nil) .nil) (.cons (.set 6 .f (.ix (.ix (.var 0) (.var 3)) (.var 4))) (.cons (.ret (.bo true (.cons (.cmp .Lt (.var 6) (.len (.var 2))) (.cons (.cmp .NotEq (.ix (.ix (.var 1) (.ix (.var 2) (.var 3))) (.ix (.var 2) (.var 4))) (.ix (.var 2) (.var 6))) .nil)))) .nil))))
def f_breaks : List D → R D := evDef (tfn []) cst 2000 7 c_breaks
theorem m_breaks : mDef N_breaks ["_law_one", "_law_other", "_law_images", "_law_a", "_law_b"] (tnm []) cst c_breaks (topS 28) = true := by decide +kernel
abbrev N_shut : List Str := ["_law_one", "_law_other", "_law_paper", "_law_shut_here", "_law_found", "_law_k", "_law_images", "_law_a", "_law_b", "_law_standing", "_law_longer_here"]
def b_shut_1 : CSs := (.cons (.ifs (.val (.call 0 (.cons (.var 0) (.cons (.var 1) (.cons (.var 6) (.cons (.var 7) (.cons (.var 8) .nil))))))) (.cons (.dput 3 (.var 6) (.bl true)) .nil) .nil) .nil)
def b_shut_2 : CSs := (.cons (.ifs (.val (.din true (.bi .tuple (.cons (.var 10) .nil)) (.var 3))) (.cons (.app 9 (.var 10)) .nil) .nil) .nil)
def b_shut_3 : CSs := (.cons (.fors (.one 10) (.ex (.call 1 (.cons (.var 6) (.cons (.len (.var 0)) .nil)))) [10] b_shut_2) .nil)
def b_shut_4 : CSs := (.cons (.set 9 .o (.lst .nil)) (.cons (.fors (.one 6) (.ex (.var 4)) [6, 10] b_shut_3) (.cons (.frz 9) (.cons (.set 4 .f (.var 9)) .nil))))
def c_shut : CSs := (.cons (.ifs (.val (.cmp .NotEq (.len (.var 0)) (.len (.var 1)))) (.cons (.ret (.bl true)) .nil) .nil) (.cons (.set 3 .o (.dnew true)) (.cons (.fors (.many [6, 7, 8]) (.ex (.var 2)) [6, 7, 8] b_shut_1) (.cons (.set 4 .f (.lst (.cons (.lst .nil) .nil))) (.cons (.fors (.one 5) (.rng1 (.len (.var 0))) [5, 6, 9, 10] b_shut_4) (.cons (.ret (.cmp .Eq (.len (.var 4)) (.int 0))) .nil))))))
def f_shut : List D → R D := evDef (tfn [("_law_breaks", 5, f_breaks), ("_law_longer", 2, f_longer)]) cst 2000 11 c_shut
theorem m_shut : mDef N_shut ["_law_one", "_law_other", "_law_paper"] (tnm [("_law_breaks", 5, f_breaks), ("_law_longer", 2, f_longer)]) cst c_shut (topS 29) = true := by decide +kernel
abbrev N_is_whole : List Str := ["_law_one"]
def c_is_whole : CSs := (.cons (.ret (.bo true (.cons (.isi .int (.var 0)) (.cons (.no (.isi .bool (.var 0))) .nil)))) .nil)
def f_is_whole : List D → R D := evDef (tfn []) cst 2000 1 c_is_whole
theorem m_is_whole : mDef N_is_whole ["_law_one"] (tnm []) cst c_is_whole (topS 30) = true := by decide +kernel
abbrev N_is_paper : List Str := ["_law_found", "_law_entry", "_law_one"]
def b_is_paper_1 : CSs := (.cons (.ifs (.no (.val (.call 0 (.cons (.var 2) .nil)))) (.cons (.ret (.bl false)) .nil) .nil) .nil)
def b_is_paper_2 : CSs := (.cons (.ifs (.bo false (.cons (.no (.val (.isi .tuple (.var 1)))) (.cons (.val (.cmp .NotEq (.len (.var 1)) (.int 3))) (.cons (.no (.val (.isi .tuple (.ix (.var 1) (.int 0))))) .nil)))) (.cons (.ret (.bl false)) .nil) .nil) (.cons (.fors (.one 2) (.ex (.bin .Add (.bi .list (.cons (.ix (.var 1) (.int 0)) .nil)) (.lst (.cons (.ix (.var 1) (.int 1)) (.cons (.ix (.var 1) (.int 2)) .nil))))) [2] b_is_paper_1) .nil))
def c_is_paper : CSs := (.cons (.ifs (.bo false (.cons (.no (.val (.isi .list (.var 0)))) (.cons (.val (.cmp .Gt (.len (.var 0)) (.int 1000))) .nil))) (.cons (.ret (.bl false)) .nil) .nil) (.cons (.fors (.one 1) (.ex (.var 0)) [1, 2] b_is_paper_2) (.cons (.ret (.bl true)) .nil)))
def f_is_paper : List D → R D := evDef (tfn [("_law_is_whole", 1, f_is_whole)]) cst 2000 3 c_is_paper
theorem m_is_paper : mDef N_is_paper ["_law_found"] (tnm [("_law_is_whole", 1, f_is_whole)]) cst c_is_paper (topS 31) = true := by decide +kernel
abbrev N_less_right : List Str := ["_law_one", "_law_other", "_law_paper", "_law_pick", "_law_at", "_law_less"]
def c_less_right : CSs := (.cons (.ifs (.val (.cmp .Eq (.len (.var 2)) (.int 0))) (.cons (.ret (.bl true)) .nil) .nil) (.cons (.set 4 .f (.bin .Mod (.var 3) (.len (.var 2)))) (.cons (.set 5 .f (.bin .Add (.sl (.var 2) .none (.some (.var 4))) (.sl (.var 2) (.some (.bin .Add (.var 4) (.int 1))) .none))) (.cons (.ret (.cmp .Eq (.call 0 (.cons (.call 1 (.cons (.var 0) .nil)) (.cons (.call 1 (.cons (.var 1) .nil)) (.cons (.bi .list (.cons (.var 5) .nil)) .nil)))) (.call 2 (.cons (.var 0) (.cons (.var 1) (.cons (.var 5) .nil)))))) .nil))))
def f_less_right : List D → R D := evDef (tfn [("shuts", 3, f_shuts), ("_law_copied", 1, f_copied), ("_law_shut", 3, f_shut)]) cst 2000 6 c_less_right
theorem m_less_right : mDef N_less_right ["_law_one", "_law_other", "_law_paper", "_law_pick"] (tnm [("shuts", 3, f_shuts), ("_law_copied", 1, f_copied), ("_law_shut", 3, f_shut)]) cst c_less_right (topS 32) = true := by decide +kernel
abbrev N_right : List Str := ["_law_one", "_law_other", "_law_pick", "_law_found", "_law_again", "_law_first", "_law_second"]
def c_right : CSs := (.cons (.par 5 6 (.call 0 (.cons (.var 0) .nil)) (.call 0 (.cons (.var 1) .nil))) (.cons (.ifs (.val (.cmp .NotEq (.call 1 (.cons (.var 5) (.cons (.var 6) (.cons (.lst .nil) .nil)))) (.cmp .NotEq (.len (.var 0)) (.len (.var 1))))) (.cons (.ret (.bl false)) .nil) .nil) (.cons (.set 3 .o (.call 2 (.cons (.var 5) (.cons (.var 6) .nil)))) (.cons (.ifs (.bo false (.cons (.val (.cmp .NotEq (.var 5) (.var 0))) (.cons (.val (.cmp .NotEq (.var 6) (.var 1))) .nil))) (.cons (.ret (.bl false)) .nil) .nil) (.cons (.ifs (.val (.cmp .Gt (.len (.call 3 (.cons (.var 0) (.cons (.var 1) .nil)))) (.int 0))) (.cons (.ret (.isb false (.var 3))) .nil) .nil) (.cons (.ifs (.bo false (.cons (.no (.val (.callb 5 (.cons (.var 3) .nil)))) (.cons (.no (.val (.callb 4 (.cons (.var 0) (.cons (.var 1) (.cons (.var 3) .nil)))))) .nil))) (.cons (.ret (.bl false)) .nil) .nil) (.cons (.ifs (.val (.cmp .IsNot (.call 1 (.cons (.var 5) (.cons (.var 6) (.cons (.listb (.var 3)) .nil)))) (.bl true))) (.cons (.ret (.bl false)) .nil) .nil) (.cons (.ifs (.no (.val (.call 6 (.cons (.var 0) (.cons (.var 1) (.cons (.listb (.var 3)) (.cons (.var 2) .nil))))))) (.cons (.ret (.bl false)) .nil) .nil) (.cons (.clr 3) (.cons (.set 4 .f (.call 2 (.cons (.var 5) (.cons (.var 6) .nil)))) (.cons (.ret (.bo true (.cons (.call 5 (.cons (.var 4) .nil)) (.cons (.call 4 (.cons (.var 0) (.cons (.var 1) (.cons (.var 4) .nil)))) .nil)))) .nil)))))))))))
def f_right : List D → R D := evDef (tfn [("_law_copied", 1, f_copied), ("shuts", 3, f_shuts), ("unlike", 2, f_unlike), ("_law_every", 2, f_every), ("_law_shut", 3, f_shut), ("_law_is_paper", 1, f_is_paper), ("_law_less_right", 4, f_less_right)]) cst 2000 7 c_right
theorem m_right : mDef N_right ["_law_one", "_law_other", "_law_pick"] (tnm [("_law_copied", 1, f_copied), ("shuts", 3, f_shuts), ("unlike", 2, f_unlike), ("_law_every", 2, f_every), ("_law_shut", 3, f_shut), ("_law_is_paper", 1, f_is_paper), ("_law_less_right", 4, f_less_right)]) cst c_right (topS 33) = true := by decide +kernel
abbrev N_law : List Str := ["_law_script", "_law_most", "_law_some", "_law_one", "_law_other"]
def c_law : CSs := (.cons (.set 1 .f (.int 5)) (.cons (.set 2 .f (.call 0 (.cons (.var 0) (.cons (.int 3) (.cons (.lst (.cons (.int 8) (.cons (.int 1000) .nil))) .nil))))) (.cons (.ifs (.val (.cmp .Eq (.ix (.var 2) (.int 0)) (.int 0))) (.cons (.set 1 .f (.int 6)) .nil) .nil) (.cons (.unp [3, 4] (.call 1 (.cons (.var 0) (.cons (.var 1) .nil)))) (.cons (.ret (.bo true (.cons (.call 2 (.cons (.var 3) (.cons (.var 4) (.cons (.ix (.var 2) (.int 1)) .nil)))) (.cons (.call 2 (.cons (.var 4) (.cons (.var 3) (.cons (.ix (.var 2) (.int 1)) .nil)))) .nil)))) .nil)))))
def f_law : List D → R D := evDef (tfn [("_law_row", 3, f_row), ("_law_pair", 2, f_pair), ("_law_right", 3, f_right)]) cst 2000 5 c_law
theorem m_law : mDef N_law ["_law_script"] (tnm [("_law_row", 3, f_row), ("_law_pair", 2, f_pair), ("_law_right", 3, f_right)]) cst c_law (topS 34) = true := by decide +kernel
section
variable {P : Program} {w : World} {K : PySem.W.Frag} {mg : Str → Option Value} {base h : Heap}
theorem k_asked_alike (Z : K.In h) (G0 : h.Ns mainGlobals mg) (G : Glo P w K mg base (fun _ => none) cst) (Y : DefAt K "asked_alike" (topS 5))  : Callee P w K mg base (fun _ => none) 1 "asked_alike" 2 f_asked_alike :=
  Y.callee (n := 2000) (k := 0) Z G0 G m_asked_alike (fun F => F.binds (ps := ["one", "other"]) fun _ _ _ _ _ _ us hl => match us, hl with | [_, _], _ => rfl) (fun e he => by cases he)
theorem k_breach_of (Z : K.In h) (G0 : h.Ns mainGlobals mg) (G : Glo P w K mg base (fun _ => none) cst) (Y : DefAt K "breach_of" (topS 6))  : Callee P w K mg base (fun _ => none) 1 "breach_of" 3 f_breach_of :=
  Y.callee (n := 2000) (k := 0) Z G0 G m_breach_of (fun F => F.binds (ps := ["one", "other", "images"]) fun _ _ _ _ _ _ us hl => match us, hl with | [_, _, _], _ => rfl) (fun e he => by cases he)
theorem k_longer_by_one (Z : K.In h) (G0 : h.Ns mainGlobals mg) (G : Glo P w K mg base (fun _ => none) cst) (Y : DefAt K "longer_by_one" (topS 7))  : Callee P w K mg base (fun _ => none) 1 "longer_by_one" 2 f_longer_by_one :=
  Y.callee (n := 2000) (k := 0) Z G0 G m_longer_by_one (fun F => F.binds (ps := ["images", "size"]) fun _ _ _ _ _ _ us hl => match us, hl with | [_, _], _ => rfl) (fun e he => by cases he)
theorem k_looked_through (Z : K.In h) (G0 : h.Ns mainGlobals mg) (G : Glo P w K mg base (fun _ => none) cst) (Y : DefAt K "looked_through" (topS 8)) (K0 : Callee P w K mg base (fun _ => none) 1 "longer_by_one" 2 f_longer_by_one) (K1 : Callee P w K mg base (fun _ => none) 1 "breach_of" 3 f_breach_of) : Callee P w K mg base (fun _ => none) 2 "looked_through" 2 f_looked_through :=
  Y.callee (n := 2000) (k := 1) Z G0 G m_looked_through (fun F => F.binds (ps := ["one", "other"]) fun _ _ _ _ _ _ us hl => match us, hl with | [_, _], _ => rfl) (fun e he => by
    simp only [List.mem_cons, List.not_mem_nil, or_false] at he
    rcases he with rfl | rfl
    · exact K0.mono (by decide)
    · exact K1.mono (by decide))
theorem k_unlike (Z : K.In h) (G0 : h.Ns mainGlobals mg) (G : Glo P w K mg base (fun _ => none) cst) (Y : DefAt K "unlike" (topS 9)) (K0 : Callee P w K mg base (fun _ => none) 1 "asked_alike" 2 f_asked_alike) (K1 : Callee P w K mg base (fun _ => none) 2 "looked_through" 2 f_looked_through) : Callee P w K mg base (fun _ => none) 3 "unlike" 2 f_unlike :=
  Y.callee (n := 2000) (k := 2) Z G0 G m_unlike (fun F => F.binds (ps := ["one", "other"]) fun _ _ _ _ _ _ us hl => match us, hl with | [_, _], _ => rfl) (fun e he => by
    simp only [List.mem_cons, List.not_mem_nil, or_false] at he
    rcases he with rfl | rfl
    · exact K0.mono (by decide)
    · exact K1.mono (by decide))
theorem k_breaks_there (Z : K.In h) (G0 : h.Ns mainGlobals mg) (G : Glo P w K mg base (fun _ => none) cst) (Y : DefAt K "breaks_there" (topS 10))  : Callee P w K mg base (fun _ => none) 1 "breaks_there" 5 f_breaks_there :=
  Y.callee (n := 2000) (k := 0) Z G0 G m_breaks_there (fun F => F.binds (ps := ["one", "other", "images", "a", "b"]) fun _ _ _ _ _ _ us hl => match us, hl with | [_, _, _, _, _], _ => rfl) (fun e he => by cases he)
theorem k_shuts (Z : K.In h) (G0 : h.Ns mainGlobals mg) (G : Glo P w K mg base (fun _ => none) cst) (Y : DefAt K "shuts" (topS 11)) (K0 : Callee P w K mg base (fun _ => none) 1 "asked_alike" 2 f_asked_alike) (K1 : Callee P w K mg base (fun _ => none) 1 "breaks_there" 5 f_breaks_there) (K2 : Callee P w K mg base (fun _ => none) 1 "longer_by_one" 2 f_longer_by_one) : Callee P w K mg base (fun _ => none) 2 "shuts" 3 f_shuts :=
  Y.callee (n := 2000) (k := 1) Z G0 G m_shuts (fun F => F.binds (ps := ["one", "other", "paper"]) fun _ _ _ _ _ _ us hl => match us, hl with | [_, _, _], _ => rfl) (fun e he => by
    simp only [List.mem_cons, List.not_mem_nil, or_false] at he
    rcases he with rfl | rfl | rfl
    · exact K0.mono (by decide)
    · exact K1.mono (by decide)
    · exact K2.mono (by decide))
theorem k_cell (Z : K.In h) (G0 : h.Ns mainGlobals mg) (G : Glo P w K mg base (fun _ => none) cst) (Y : DefAt K "_law_cell" (topS 13))  : Callee P w K mg base (fun _ => none) 1 "_law_cell" 2 f_cell :=
  Y.callee (n := 2000) (k := 0) Z G0 G m_cell (fun F => F.binds (ps := ["_law_script", "_law_place"]) fun _ _ _ _ _ _ us hl => match us, hl with | [_, _], _ => rfl) (fun e he => by cases he)
theorem k_mix (Z : K.In h) (G0 : h.Ns mainGlobals mg) (G : Glo P w K mg base (fun _ => none) cst) (Y : DefAt K "_law_mix" (topS 14))  : Callee P w K mg base (fun _ => none) 1 "_law_mix" 2 f_mix :=
  Y.callee (n := 2000) (k := 0) Z G0 G m_mix (fun F => F.binds (ps := ["_law_cell_here", "_law_k"]) fun _ _ _ _ _ _ us hl => match us, hl with | [_, _], _ => rfl) (fun e he => by cases he)
theorem k_row (Z : K.In h) (G0 : h.Ns mainGlobals mg) (G : Glo P w K mg base (fun _ => none) cst) (Y : DefAt K "_law_row" (topS 15)) (K0 : Callee P w K mg base (fun _ => none) 1 "_law_cell" 2 f_cell) (K1 : Callee P w K mg base (fun _ => none) 1 "_law_mix" 2 f_mix) : Callee P w K mg base (fun _ => none) 2 "_law_row" 3 f_row :=
  Y.callee (n := 2000) (k := 1) Z G0 G m_row (fun F => F.binds (ps := ["_law_script", "_law_place", "_law_sizes"]) fun _ _ _ _ _ _ us hl => match us, hl with | [_, _, _], _ => rfl) (fun e he => by
    simp only [List.mem_cons, List.not_mem_nil, or_false] at he
    rcases he with rfl | rfl
    · exact K0.mono (by decide)
    · exact K1.mono (by decide))
theorem k_cell_of (Z : K.In h) (G0 : h.Ns mainGlobals mg) (G : Glo P w K mg base (fun _ => none) cst) (Y : DefAt K "_law_cell_of" (topS 16))  : Callee P w K mg base (fun _ => none) 1 "_law_cell_of" 5 f_cell_of :=
  Y.callee (n := 2000) (k := 0) Z G0 G m_cell_of (fun F => F.binds (ps := ["_law_way", "_law_size", "_law_factor", "_law_a", "_law_b"]) fun _ _ _ _ _ _ us hl => match us, hl with | [_, _, _, _, _], _ => rfl) (fun e he => by cases he)
theorem k_common (Z : K.In h) (G0 : h.Ns mainGlobals mg) (G : Glo P w K mg base (fun _ => none) cst) (Y : DefAt K "_law_common" (topS 17))  : Callee P w K mg base (fun _ => none) 1 "_law_common" 2 f_common :=
  Y.callee (n := 2000) (k := 0) Z G0 G m_common (fun F => F.binds (ps := ["_law_one", "_law_other"]) fun _ _ _ _ _ _ us hl => match us, hl with | [_, _], _ => rfl) (fun e he => by cases he)
theorem k_made (Z : K.In h) (G0 : h.Ns mainGlobals mg) (G : Glo P w K mg base (fun _ => none) cst) (Y : DefAt K "_law_made" (topS 18)) (K0 : Callee P w K mg base (fun _ => none) 1 "_law_common" 2 f_common) (K1 : Callee P w K mg base (fun _ => none) 1 "_law_cell_of" 5 f_cell_of) : Callee P w K mg base (fun _ => none) 2 "_law_made" 3 f_made :=
  Y.callee (n := 2000) (k := 1) Z G0 G m_made (fun F => F.binds (ps := ["_law_way", "_law_size", "_law_factor"]) fun _ _ _ _ _ _ us hl => match us, hl with | [_, _, _], _ => rfl) (fun e he => by
    simp only [List.mem_cons, List.not_mem_nil, or_false] at he
    rcases he with rfl | rfl
    · exact K0.mono (by decide)
    · exact K1.mono (by decide))
theorem k_ordered (Z : K.In h) (G0 : h.Ns mainGlobals mg) (G : Glo P w K mg base (fun _ => none) cst) (Y : DefAt K "_law_ordered" (topS 19))  : Callee P w K mg base (fun _ => none) 1 "_law_ordered" 2 f_ordered :=
  Y.callee (n := 2000) (k := 0) Z G0 G m_ordered (fun F => F.binds (ps := ["_law_some", "_law_count"]) fun _ _ _ _ _ _ us hl => match us, hl with | [_, _], _ => rfl) (fun e he => by cases he)
theorem k_relaid (Z : K.In h) (G0 : h.Ns mainGlobals mg) (G : Glo P w K mg base (fun _ => none) cst) (Y : DefAt K "_law_relaid" (topS 20))  : Callee P w K mg base (fun _ => none) 1 "_law_relaid" 2 f_relaid :=
  Y.callee (n := 2000) (k := 0) Z G0 G m_relaid (fun F => F.binds (ps := ["_law_some", "_law_spots"]) fun _ _ _ _ _ _ us hl => match us, hl with | [_, _], _ => rfl) (fun e he => by cases he)
theorem k_table (Z : K.In h) (G0 : h.Ns mainGlobals mg) (G : Glo P w K mg base (fun _ => none) cst) (Y : DefAt K "_law_table" (topS 21)) (K0 : Callee P w K mg base (fun _ => none) 2 "_law_row" 3 f_row) (K1 : Callee P w K mg base (fun _ => none) 2 "_law_made" 3 f_made) (K2 : Callee P w K mg base (fun _ => none) 1 "_law_relaid" 2 f_relaid) (K3 : Callee P w K mg base (fun _ => none) 1 "_law_ordered" 2 f_ordered) : Callee P w K mg base (fun _ => none) 3 "_law_table" 3 f_table :=
  Y.callee (n := 2000) (k := 2) Z G0 G m_table (fun F => F.binds (ps := ["_law_script", "_law_place", "_law_most"]) fun _ _ _ _ _ _ us hl => match us, hl with | [_, _, _], _ => rfl) (fun e he => by
    simp only [List.mem_cons, List.not_mem_nil, or_false] at he
    rcases he with rfl | rfl | rfl | rfl
    · exact K0.mono (by decide)
    · exact K1.mono (by decide)
    · exact K2.mono (by decide)
    · exact K3.mono (by decide))
theorem k_stands (Z : K.In h) (G0 : h.Ns mainGlobals mg) (G : Glo P w K mg base (fun _ => none) cst) (Y : DefAt K "_law_stands" (topS 22))  : Callee P w K mg base (fun _ => none) 1 "_law_stands" 3 f_stands :=
  Y.callee (n := 2000) (k := 0) Z G0 G m_stands (fun F => F.binds (ps := ["_law_one", "_law_other", "_law_images"]) fun _ _ _ _ _ _ us hl => match us, hl with | [_, _, _], _ => rfl) (fun e he => by cases he)
theorem k_longer (Z : K.In h) (G0 : h.Ns mainGlobals mg) (G : Glo P w K mg base (fun _ => none) cst) (Y : DefAt K "_law_longer" (topS 23))  : Callee P w K mg base (fun _ => none) 1 "_law_longer" 2 f_longer :=
  Y.callee (n := 2000) (k := 0) Z G0 G m_longer (fun F => F.binds (ps := ["_law_images", "_law_size"]) fun _ _ _ _ _ _ us hl => match us, hl with | [_, _], _ => rfl) (fun e he => by cases he)
theorem k_every (Z : K.In h) (G0 : h.Ns mainGlobals mg) (G : Glo P w K mg base (fun _ => none) cst) (Y : DefAt K "_law_every" (topS 24)) (K0 : Callee P w K mg base (fun _ => none) 1 "_law_longer" 2 f_longer) (K1 : Callee P w K mg base (fun _ => none) 1 "_law_stands" 3 f_stands) : Callee P w K mg base (fun _ => none) 2 "_law_every" 2 f_every :=
  Y.callee (n := 2000) (k := 1) Z G0 G m_every (fun F => F.binds (ps := ["_law_one", "_law_other"]) fun _ _ _ _ _ _ us hl => match us, hl with | [_, _], _ => rfl) (fun e he => by
    simp only [List.mem_cons, List.not_mem_nil, or_false] at he
    rcases he with rfl | rfl
    · exact K0.mono (by decide)
    · exact K1.mono (by decide))
theorem k_copied (Z : K.In h) (G0 : h.Ns mainGlobals mg) (G : Glo P w K mg base (fun _ => none) cst) (Y : DefAt K "_law_copied" (topS 25))  : Callee P w K mg base (fun _ => none) 1 "_law_copied" 1 f_copied :=
  Y.callee (n := 2000) (k := 0) Z G0 G m_copied (fun F => F.binds (ps := ["_law_some"]) fun _ _ _ _ _ _ us hl => match us, hl with | [_], _ => rfl) (fun e he => by cases he)
theorem k_rare (Z : K.In h) (G0 : h.Ns mainGlobals mg) (G : Glo P w K mg base (fun _ => none) cst) (Y : DefAt K "_law_rare" (topS 26))  : Callee P w K mg base (fun _ => none) 1 "_law_rare" 2 f_rare :=
  Y.callee (n := 2000) (k := 0) Z G0 G m_rare (fun F => F.binds (ps := ["_law_way", "_law_size"]) fun _ _ _ _ _ _ us hl => match us, hl with | [_, _], _ => rfl) (fun e he => by cases he)
theorem k_pair (Z : K.In h) (G0 : h.Ns mainGlobals mg) (G : Glo P w K mg base (fun _ => none) cst) (Y : DefAt K "_law_pair" (topS 27)) (K0 : Callee P w K mg base (fun _ => none) 2 "_law_row" 3 f_row) (K1 : Callee P w K mg base (fun _ => none) 3 "_law_table" 3 f_table) (K2 : Callee P w K mg base (fun _ => none) 1 "_law_rare" 2 f_rare) (K3 : Callee P w K mg base (fun _ => none) 1 "_law_relaid" 2 f_relaid) (K4 : Callee P w K mg base (fun _ => none) 1 "_law_ordered" 2 f_ordered) (K5 : Callee P w K mg base (fun _ => none) 2 "_law_made" 3 f_made) : Callee P w K mg base (fun _ => none) 4 "_law_pair" 2 f_pair :=
  Y.callee (n := 2000) (k := 3) Z G0 G m_pair (fun F => F.binds (ps := ["_law_script", "_law_most"]) fun _ _ _ _ _ _ us hl => match us, hl with | [_, _], _ => rfl) (fun e he => by
    simp only [List.mem_cons, List.not_mem_nil, or_false] at he
    rcases he with rfl | rfl | rfl | rfl | rfl | rfl
    · exact K0.mono (by decide)
    · exact K1.mono (by decide)
    · exact K2.mono (by decide)
    · exact K3.mono (by decide)
    · exact K4.mono (by decide)
    · exact K5.mono (by decide))
theorem k_breaks (Z : K.In h) (G0 : h.Ns mainGlobals mg) (G : Glo P w K mg base (fun _ => none) cst) (Y : DefAt K "_law_breaks" (topS 28))  : Callee P w K mg base (fun _ => none) 1 "_law_breaks" 5 f_breaks :=
  Y.callee (n := 2000) (k := 0) Z G0 G m_breaks (fun F => F.binds (ps := ["_law_one", "_law_other", "_law_images", "_law_a", "_law_b"]) fun _ _ _ _ _ _ us hl => match us, hl with | [_, _, _, _, _], _ => rfl) (fun e he => by cases he)
theorem k_shut (Z : K.In h) (G0 : h.Ns mainGlobals mg) (G : Glo P w K mg base (fun _ => none) cst) (Y : DefAt K "_law_shut" (topS 29)) (K0 : Callee P w K mg base (fun _ => none) 1 "_law_breaks" 5 f_breaks) (K1 : Callee P w K mg base (fun _ => none) 1 "_law_longer" 2 f_longer) : Callee P w K mg base (fun _ => none) 2 "_law_shut" 3 f_shut :=
  Y.callee (n := 2000) (k := 1) Z G0 G m_shut (fun F => F.binds (ps := ["_law_one", "_law_other", "_law_paper"]) fun _ _ _ _ _ _ us hl => match us, hl with | [_, _, _], _ => rfl) (fun e he => by
    simp only [List.mem_cons, List.not_mem_nil, or_false] at he
    rcases he with rfl | rfl
    · exact K0.mono (by decide)
    · exact K1.mono (by decide))
theorem k_is_whole (Z : K.In h) (G0 : h.Ns mainGlobals mg) (G : Glo P w K mg base (fun _ => none) cst) (Y : DefAt K "_law_is_whole" (topS 30))  : Callee P w K mg base (fun _ => none) 1 "_law_is_whole" 1 f_is_whole :=
  Y.callee (n := 2000) (k := 0) Z G0 G m_is_whole (fun F => F.binds (ps := ["_law_one"]) fun _ _ _ _ _ _ us hl => match us, hl with | [_], _ => rfl) (fun e he => by cases he)
theorem k_is_paper (Z : K.In h) (G0 : h.Ns mainGlobals mg) (G : Glo P w K mg base (fun _ => none) cst) (Y : DefAt K "_law_is_paper" (topS 31)) (K0 : Callee P w K mg base (fun _ => none) 1 "_law_is_whole" 1 f_is_whole) : Callee P w K mg base (fun _ => none) 2 "_law_is_paper" 1 f_is_paper :=
  Y.callee (n := 2000) (k := 1) Z G0 G m_is_paper (fun F => F.binds (ps := ["_law_found"]) fun _ _ _ _ _ _ us hl => match us, hl with | [_], _ => rfl) (fun e he => by
    simp only [List.mem_cons, List.not_mem_nil, or_false] at he
    rcases he with rfl
    exact K0.mono (by decide))
theorem k_less_right (Z : K.In h) (G0 : h.Ns mainGlobals mg) (G : Glo P w K mg base (fun _ => none) cst) (Y : DefAt K "_law_less_right" (topS 32)) (K0 : Callee P w K mg base (fun _ => none) 2 "shuts" 3 f_shuts) (K1 : Callee P w K mg base (fun _ => none) 1 "_law_copied" 1 f_copied) (K2 : Callee P w K mg base (fun _ => none) 2 "_law_shut" 3 f_shut) : Callee P w K mg base (fun _ => none) 3 "_law_less_right" 4 f_less_right :=
  Y.callee (n := 2000) (k := 2) Z G0 G m_less_right (fun F => F.binds (ps := ["_law_one", "_law_other", "_law_paper", "_law_pick"]) fun _ _ _ _ _ _ us hl => match us, hl with | [_, _, _, _], _ => rfl) (fun e he => by
    simp only [List.mem_cons, List.not_mem_nil, or_false] at he
    rcases he with rfl | rfl | rfl
    · exact K0.mono (by decide)
    · exact K1.mono (by decide)
    · exact K2.mono (by decide))
theorem k_right (Z : K.In h) (G0 : h.Ns mainGlobals mg) (G : Glo P w K mg base (fun _ => none) cst) (Y : DefAt K "_law_right" (topS 33)) (K0 : Callee P w K mg base (fun _ => none) 1 "_law_copied" 1 f_copied) (K1 : Callee P w K mg base (fun _ => none) 2 "shuts" 3 f_shuts) (K2 : Callee P w K mg base (fun _ => none) 3 "unlike" 2 f_unlike) (K3 : Callee P w K mg base (fun _ => none) 2 "_law_every" 2 f_every) (K4 : Callee P w K mg base (fun _ => none) 2 "_law_shut" 3 f_shut) (K5 : Callee P w K mg base (fun _ => none) 2 "_law_is_paper" 1 f_is_paper) (K6 : Callee P w K mg base (fun _ => none) 3 "_law_less_right" 4 f_less_right) : Callee P w K mg base (fun _ => none) 4 "_law_right" 3 f_right :=
  Y.callee (n := 2000) (k := 3) Z G0 G m_right (fun F => F.binds (ps := ["_law_one", "_law_other", "_law_pick"]) fun _ _ _ _ _ _ us hl => match us, hl with | [_, _, _], _ => rfl) (fun e he => by
    simp only [List.mem_cons, List.not_mem_nil, or_false] at he
    rcases he with rfl | rfl | rfl | rfl | rfl | rfl | rfl
    · exact K0.mono (by decide)
    · exact K1.mono (by decide)
    · exact K2.mono (by decide)
    · exact K3.mono (by decide)
    · exact K4.mono (by decide)
    · exact K5.mono (by decide)
    · exact K6.mono (by decide))
theorem k_law (Z : K.In h) (G0 : h.Ns mainGlobals mg) (G : Glo P w K mg base (fun _ => none) cst) (Y : DefAt K "law" (topS 34)) (K0 : Callee P w K mg base (fun _ => none) 2 "_law_row" 3 f_row) (K1 : Callee P w K mg base (fun _ => none) 4 "_law_pair" 2 f_pair) (K2 : Callee P w K mg base (fun _ => none) 4 "_law_right" 3 f_right) : Callee P w K mg base (fun _ => none) 5 "law" 1 f_law :=
  Y.callee (n := 2000) (k := 4) Z G0 G m_law (fun F => F.binds (ps := ["_law_script"]) fun _ _ _ _ _ _ us hl => match us, hl with | [_], _ => rfl) (fun e he => by
    simp only [List.mem_cons, List.not_mem_nil, or_false] at he
    rcases he with rfl | rfl | rfl
    · exact K0.mono (by decide)
    · exact K1.mono (by decide)
    · exact K2.mono (by decide))
theorem all_mk {fa : Addr} (Z : K.In h) (G0 : h.Ns mainGlobals mg) (hfa : mg "law" = some (.ref fa))
    (D_asked_alike : DefAt K "asked_alike" (topS 5))
    (D_breach_of : DefAt K "breach_of" (topS 6))
    (D_longer_by_one : DefAt K "longer_by_one" (topS 7))
    (D_looked_through : DefAt K "looked_through" (topS 8))
    (D_unlike : DefAt K "unlike" (topS 9))
    (D_breaks_there : DefAt K "breaks_there" (topS 10))
    (D_shuts : DefAt K "shuts" (topS 11))
    (D_cell : DefAt K "_law_cell" (topS 13))
    (D_mix : DefAt K "_law_mix" (topS 14))
    (D_row : DefAt K "_law_row" (topS 15))
    (D_cell_of : DefAt K "_law_cell_of" (topS 16))
    (D_common : DefAt K "_law_common" (topS 17))
    (D_made : DefAt K "_law_made" (topS 18))
    (D_ordered : DefAt K "_law_ordered" (topS 19))
    (D_relaid : DefAt K "_law_relaid" (topS 20))
    (D_table : DefAt K "_law_table" (topS 21))
    (D_stands : DefAt K "_law_stands" (topS 22))
    (D_longer : DefAt K "_law_longer" (topS 23))
    (D_every : DefAt K "_law_every" (topS 24))
    (D_copied : DefAt K "_law_copied" (topS 25))
    (D_rare : DefAt K "_law_rare" (topS 26))
    (D_pair : DefAt K "_law_pair" (topS 27))
    (D_breaks : DefAt K "_law_breaks" (topS 28))
    (D_shut : DefAt K "_law_shut" (topS 29))
    (D_is_whole : DefAt K "_law_is_whole" (topS 30))
    (D_is_paper : DefAt K "_law_is_paper" (topS 31))
    (D_less_right : DefAt K "_law_less_right" (topS 32))
    (D_right : DefAt K "_law_right" (topS 33))
    (D_law : DefAt K "law" (topS 34))
    (hb : ∀ x : Str, x ∈ (["len", "abs", "max", "min", "int", "list", "tuple", "str", "range", "set", "isinstance", "bool", "enumerate", "zip"] : List Str) → PySem.W.nsIn K mainGlobals x = some none)
    (C_MOST_ALIKE : ConstAt K "MOST_ALIKE" (.int 6))
    : ∃ fd : FuncData, (∀ (s : Shared) (v : Value), BindsTo s fd ⟨[v], []⟩ [("_law_script", v)]) ∧ ∀ base : Heap, K.In base → base.Ns mainGlobals mg → FnOk P w K mg base (L2.CX P w) 5 fa fd ["_law_script"] (spOf K (fun _ => none) 1 f_law) := by
  obtain ⟨f, oc, od, an, sl, kV, dc, pm, cd, ct, a, l, c, k⟩ := D_law
  have e := hfa.symm.trans (PySem.W.mg_of Z G0 a)
  cases e
  refine ⟨PySem.W.fnOf "law" "law" (defArgs (topS 34)) (defBody (topS 34)) (defScope (topS 34)) .none kV dc pm an cd ct, fun s v => .of_eq rfl, fun base _ _ => ?_⟩
  · have G : Glo P w K mg base (fun _ => none) cst := Glo.make Z G0 hb (fun x d hx => by
      unfold cst at hx
      split at hx
      · rename_i e
        cases hx; subst e
        obtain ⟨u, h1, h2⟩ := C_MOST_ALIKE
        exact ⟨_, u, h1, h2, fun F => by first | rfl | exact True.intro⟩
      cases hx)
    have K_asked_alike : Callee P w K mg base (fun _ => none) 1 "asked_alike" 2 f_asked_alike := k_asked_alike Z G0 G D_asked_alike 
    have K_breach_of : Callee P w K mg base (fun _ => none) 1 "breach_of" 3 f_breach_of := k_breach_of Z G0 G D_breach_of 
    have K_longer_by_one : Callee P w K mg base (fun _ => none) 1 "longer_by_one" 2 f_longer_by_one := k_longer_by_one Z G0 G D_longer_by_one 
    have K_looked_through : Callee P w K mg base (fun _ => none) 2 "looked_through" 2 f_looked_through := k_looked_through Z G0 G D_looked_through K_longer_by_one K_breach_of
    have K_unlike : Callee P w K mg base (fun _ => none) 3 "unlike" 2 f_unlike := k_unlike Z G0 G D_unlike K_asked_alike K_looked_through
    have K_breaks_there : Callee P w K mg base (fun _ => none) 1 "breaks_there" 5 f_breaks_there := k_breaks_there Z G0 G D_breaks_there 
    have K_shuts : Callee P w K mg base (fun _ => none) 2 "shuts" 3 f_shuts := k_shuts Z G0 G D_shuts K_asked_alike K_breaks_there K_longer_by_one
    have K_cell : Callee P w K mg base (fun _ => none) 1 "_law_cell" 2 f_cell := k_cell Z G0 G D_cell 
    have K_mix : Callee P w K mg base (fun _ => none) 1 "_law_mix" 2 f_mix := k_mix Z G0 G D_mix 
    have K_row : Callee P w K mg base (fun _ => none) 2 "_law_row" 3 f_row := k_row Z G0 G D_row K_cell K_mix
    have K_cell_of : Callee P w K mg base (fun _ => none) 1 "_law_cell_of" 5 f_cell_of := k_cell_of Z G0 G D_cell_of 
    have K_common : Callee P w K mg base (fun _ => none) 1 "_law_common" 2 f_common := k_common Z G0 G D_common 
    have K_made : Callee P w K mg base (fun _ => none) 2 "_law_made" 3 f_made := k_made Z G0 G D_made K_common K_cell_of
    have K_ordered : Callee P w K mg base (fun _ => none) 1 "_law_ordered" 2 f_ordered := k_ordered Z G0 G D_ordered 
    have K_relaid : Callee P w K mg base (fun _ => none) 1 "_law_relaid" 2 f_relaid := k_relaid Z G0 G D_relaid 
    have K_table : Callee P w K mg base (fun _ => none) 3 "_law_table" 3 f_table := k_table Z G0 G D_table K_row K_made K_relaid K_ordered
    have K_stands : Callee P w K mg base (fun _ => none) 1 "_law_stands" 3 f_stands := k_stands Z G0 G D_stands 
    have K_longer : Callee P w K mg base (fun _ => none) 1 "_law_longer" 2 f_longer := k_longer Z G0 G D_longer 
    have K_every : Callee P w K mg base (fun _ => none) 2 "_law_every" 2 f_every := k_every Z G0 G D_every K_longer K_stands
    have K_copied : Callee P w K mg base (fun _ => none) 1 "_law_copied" 1 f_copied := k_copied Z G0 G D_copied 
    have K_rare : Callee P w K mg base (fun _ => none) 1 "_law_rare" 2 f_rare := k_rare Z G0 G D_rare 
    have K_pair : Callee P w K mg base (fun _ => none) 4 "_law_pair" 2 f_pair := k_pair Z G0 G D_pair K_row K_table K_rare K_relaid K_ordered K_made
    have K_breaks : Callee P w K mg base (fun _ => none) 1 "_law_breaks" 5 f_breaks := k_breaks Z G0 G D_breaks 
    have K_shut : Callee P w K mg base (fun _ => none) 2 "_law_shut" 3 f_shut := k_shut Z G0 G D_shut K_breaks K_longer
    have K_is_whole : Callee P w K mg base (fun _ => none) 1 "_law_is_whole" 1 f_is_whole := k_is_whole Z G0 G D_is_whole 
    have K_is_paper : Callee P w K mg base (fun _ => none) 2 "_law_is_paper" 1 f_is_paper := k_is_paper Z G0 G D_is_paper K_is_whole
    have K_less_right : Callee P w K mg base (fun _ => none) 3 "_law_less_right" 4 f_less_right := k_less_right Z G0 G D_less_right K_shuts K_copied K_shut
    have K_right : Callee P w K mg base (fun _ => none) 4 "_law_right" 3 f_right := k_right Z G0 G D_right K_copied K_shuts K_unlike K_every K_shut K_is_paper K_less_right
    exact def_fn (n := 2000) (k := 4) (N := N_law) (ps := ["_law_script"]) (code := c_law) (t := [("_law_row", 3, f_row), ("_law_pair", 2, f_pair), ("_law_right", 3, f_right)]) G (fun_mk l c k) m_law (fun e he => by
      simp only [List.mem_cons, List.not_mem_nil, or_false] at he
      rcases he with rfl | rfl | rfl
      · exact K_row.mono (by decide)
      · exact K_pair.mono (by decide)
      · exact K_right.mono (by decide))
end
end K44
set_option Elab.async false
set_option linter.all false
set_option maxRecDepth 100000
namespace K44
open PySem L2 TI
theorem mix_ok (a k : Int) (h : 0 ≤ k) (h2 : k < 200) : ∃ m, f_mix [.int a, .int k] = .ok (.int m) := by
  unfold f_mix c_mix evDef
  have q2 := Int.emod_nonneg a (show (2147483629 : Int) ≠ 0 by decide)
  have q3 := Int.emod_lt_of_pos a (show (0 : Int) < 2147483629 by decide)
  have q4 : ∀ x : Int, 0 ≤ x % 2147483647 ∧ x % 2147483647 < 2147483647 := fun x => ⟨Int.emod_nonneg _ (by decide), Int.emod_lt_of_pos _ (by decide)⟩
  simp (disch := omega) [b_mod, b_div]
  rw [b_mul (by omega)]
  simp (disch := omega) [b_mod, b_pow]
  have := q4 ((a % 2147483629 + 1013 * k + 7919) ^ 3)
  rw [b_mul (by omega), b_mul (by omega)]
  simp only [ok_bind]
  rw [b_mul (by omega)]
  simp (disch := omega) [b_mod, b_div]
theorem cell_ok (ns : List Int) (p : Int) (hp : 0 ≤ p) : ∃ c, f_cell [.scr ns, .int p] = .ok (.int c) := by
  unfold f_cell c_cell evDef
  by_cases h : p < ns.length
  · have h' : p.toNat < ns.length := by omega
    simp [h, ix_s hp h']
  · simp [h, kidsF, isStr, slD]
    obtain ⟨e, h1, s, rfl⟩ := forL_inv (b := evSs (tfn []) cst 2000 b_cell_1) (ct := .one 3) (kl := [3]) (fun _ env => ∃ s : Int, env = [some (.scr ns), some (.int p), some (.int s), none])
      (xs := (cutL ns none (some 63)).map D.int) (e0 := [some (.scr ns), some (.int p), some (.int 5), none]) (i0 := 0) (fun i env x hs hx _ => by
        obtain ⟨s, rfl⟩ := hs
        rw [List.getElem?_map] at hx
        obtain ⟨y, _, rfl⟩ := Option.map_eq_some_iff.mp hx
        unfold b_cell_1
        simp (disch := omega) [stepL, b_mod, b_mul, wipeE]) ⟨5, rfl⟩
    rw [h1]
    simp (disch := omega) [b_mod, b_mul]
theorem row_ok (ns sz : List Int) (p : Int) (hp : 0 ≤ p) (hl : sz.length ≤ 190) (hs : ∀ z ∈ sz, 0 < z ∧ z < 1073741824) :
    ∃ vs : List Int, f_row [.scr ns, .int p, eI sz] = .ok (.lst true (vs.map .int)) ∧ vs.length = sz.length ∧ ∀ (k : Nat) (v z : Int), vs[k]? = some v → sz[k]? = some z → 0 ≤ v ∧ v < z := by
  unfold f_row c_row evDef
  obtain ⟨c, hc⟩ := cell_ok ns p hp
  simp [hc, i_rng1]
  rw [gd_d (by omega)]
  simp
  obtain ⟨e, h1, l, vs, rfl, hl1, h3⟩ := forL_inv (b := evSs (tfn [("_law_cell", 2, f_cell), ("_law_mix", 2, f_mix)]) cst 2000 b_row_1) (ct := .one 6) (kl := [6, 7]) (fun i env => ∃ (l : Int) (vs : List Int), env = [some (.scr ns), some (.int p), some (eI sz), some (.int c), some (.int l), some (.lst true (vs.map .int)), none, none] ∧ vs.length = i ∧
      ∀ (k : Nat) (v z : Int), vs[k]? = some v → sz[k]? = some z → 0 ≤ v ∧ v < z)
      (xs := rngD 0 sz.length) (e0 := [some (.scr ns), some (.int p), some (eI sz), some (.int c), some (.int c), some (.lst true []), none, none]) (i0 := 0) (fun i env x hp1 hx _ => by
        obtain ⟨l, vs, rfl, hi, hv⟩ := hp1
        obtain ⟨hx1, rfl⟩ := rngD_get hx
        rw [Nat.sub_zero] at hx1 ⊢
        have hz := hs sz[i] (List.getElem_mem hx1)
        have ext : ∀ w : Int, 0 ≤ w ∧ w < sz[i] → vs.length + 1 = i + 1 ∧ ∀ (k : Nat) (v z : Int), (vs ++ [w])[k]? = some v → sz[k]? = some z → 0 ≤ v ∧ v < z := by
          intro w hw
          refine ⟨by omega, fun k v z h1 h2 => ?_⟩
          rw [List.getElem?_append] at h1
          split at h1
          · exact hv k v z h1 h2
          · have : k = i := by
              have := (List.getElem?_eq_some_iff.mp h1).1
              simp at this
              omega
            subst this
            rw [hi] at h1
            simp at h1
            rw [List.getElem?_eq_getElem hx1] at h2
            cases h2
            subst h1
            exact hw
        have em : ∀ y : Int, 0 ≤ y % sz[i] ∧ y % sz[i] < sz[i] := fun y => ⟨Int.emod_nonneg _ (by omega), Int.emod_lt_of_pos _ hz.1⟩
        have ixz : ixD (eI sz) (.int (i : Int)) = .ok (.int sz[i]) := by
          rw [ix_l (by omega) (by simpa using hx1)]; simp
        unfold b_row_1
        obtain ⟨m1, hm1⟩ := mix_ok c i (by omega) (by omega)
        by_cases hc1 : c < 10 ^ 18
        · have hc2 : c < 1000000000000000000 := hc1
          simp (disch := omega) [stepL, b_pow, hc2, r_app, hm1, ixz, b_mod, wipeE, gd_d, lim, hi]
          exact ⟨l, vs ++ [m1 % sz[i]], by simp, by simpa using ext _ (em m1)⟩
        · have hc2 : ¬ c < 1000000000000000000 := hc1
          by_cases hl0 : 0 < l
          · simp (disch := omega) [stepL, b_pow, hc2, hl0, r_app, ixz, b_mod, b_div, wipeE, gd_d, lim, hi]
            exact ⟨l / sz[i], vs ++ [l % sz[i]], by simp, by simpa using ext _ (em l)⟩
          · obtain ⟨o, ho⟩ := cell_ok ns ((p + 1 + i) % 63) (Int.emod_nonneg _ (by decide))
            obtain ⟨m2, hm2⟩ := mix_ok o i (by omega) (by omega)
            simp (disch := omega) [stepL, b_pow, hc2, hl0, r_app, ixz, ho, hm2, b_mod, b_div, wipeE, gd_d, lim, hi]
            exact ⟨l, vs ++ [m2 % sz[i]], by simp, by simpa using ext _ (em m2)⟩) ⟨c, [], rfl, rfl, fun k v z h => by simp at h⟩
  rw [h1]
  simp
  rw [rngD_len] at hl1
  exact ⟨vs, rfl, by omega, h3⟩
end K44
set_option Elab.async false
set_option linter.all false
set_option maxRecDepth 100000
namespace K44
open PySem L2 TI
/-- a table of n colours -/
def Tab (n : Nat) (t : List (List Int)) : Prop := t.length = n ∧ ∀ r ∈ t, r.length = n ∧ ∀ v ∈ r, 0 ≤ v ∧ v < n
def comB (f s : Int) (one : Bool) : Bool := match f_common [.int f, .int s] with
  | .ok (.int g) => decide (g = 1) == one
  | _ => false
theorem common_all : ((List.range 30).all fun f => (List.range 6).all fun s => comB (f + 1 : Nat) (s + 1 : Nat) (decide (Nat.gcd (f + 1) (s + 1) = 1))) = true := by decide +kernel
theorem common_ok {f s : Nat} (hf : 1 ≤ f ∧ f ≤ 30) (hs : 1 ≤ s ∧ s ≤ 6) : ∃ g, f_common [.int f, .int s] = .ok (.int g) ∧ (g = 1 ↔ Nat.gcd f s = 1) := by
  have h := common_all
  rw [List.all_eq_true] at h
  have h := h (f - 1) (List.mem_range.mpr (by omega))
  rw [List.all_eq_true] at h
  have h := h (s - 1) (List.mem_range.mpr (by omega))
  rw [show f - 1 + 1 = f by omega, show s - 1 + 1 = s by omega] at h
  unfold comB at h
  split at h
  · rename_i g hg
    refine ⟨g, hg, ?_⟩
    have h := eq_of_beq h
    exact ⟨fun e => of_decide_eq_true (by rw [← h]; exact decide_eq_true e), fun e => of_decide_eq_true (by rw [h]; exact decide_eq_true e)⟩
  · cases h
theorem next_all : ((List.range 25).all fun f => (List.range 6).all fun s => (List.range 6).any fun j => decide (Nat.gcd (f + 1 + j) (s + 1) = 1)) = true := by decide +kernel
theorem next_ok {f s : Nat} (hf : 1 ≤ f ∧ f ≤ 25) (hs : 1 ≤ s ∧ s ≤ 6) : ∃ j, j ≤ 5 ∧ Nat.gcd (f + j) s = 1 ∧ ∀ i, i < j → Nat.gcd (f + i) s ≠ 1 := by
  have h := next_all
  rw [List.all_eq_true] at h
  have h := h (f - 1) (List.mem_range.mpr (by omega))
  rw [List.all_eq_true] at h
  have h := h (s - 1) (List.mem_range.mpr (by omega))
  rw [show f - 1 + 1 = f by omega, show s - 1 + 1 = s by omega, List.any_eq_true] at h
  obtain ⟨j, hj, h⟩ := h
  have hj : j < 6 := List.mem_range.mp hj
  have h := of_decide_eq_true h
  have : ∀ k, (∃ i, i ≤ k ∧ Nat.gcd (f + i) s = 1) → ∃ j, j ≤ k ∧ Nat.gcd (f + j) s = 1 ∧ ∀ i, i < j → Nat.gcd (f + i) s ≠ 1 := by
    intro k
    induction k with
    | zero =>
      rintro ⟨i, hi, e⟩
      have : i = 0 := by omega
      subst this
      exact ⟨0, Nat.le_refl _, e, fun i hi => absurd hi (Nat.not_lt_zero _)⟩
    | succ k ih =>
      intro hk
      by_cases q : ∃ i, i ≤ k ∧ Nat.gcd (f + i) s = 1
      · obtain ⟨j, h1, h2⟩ := ih q
        exact ⟨j, by omega, h2⟩
      · obtain ⟨i, hi, e⟩ := hk
        have : i = k + 1 := by
          apply Nat.le_antisymm hi
          apply Nat.lt_of_not_le
          intro hik
          exact q ⟨i, hik, e⟩
        subst this
        exact ⟨k + 1, Nat.le_refl _, e, fun i hi e => q ⟨i, by omega, e⟩⟩
  exact this 5 ⟨j, by omega, h⟩
theorem cell_of_ok {w f a b : Int} {s : Nat} (hs : 1 ≤ s ∧ s ≤ 6) (hf : f.natAbs < 2 ^ 60) (ha : 0 ≤ a ∧ a < s) (hb : 0 ≤ b ∧ b < s) : ∃ v : Int, f_cell_of [.int w, .int s, .int f, .int a, .int b] = .ok (.int v) ∧ 0 ≤ v ∧ v < s := by
  unfold f_cell_of c_cell_of
  rw [evDef_fin]
  have e1 : ∀ x : Int, 0 ≤ x % (s : Int) ∧ x % (s : Int) < s := fun x => ⟨Int.emod_nonneg _ (by omega), Int.emod_lt_of_pos _ (by omega)⟩
  have hs' : 0 < (s : Int) := by omega
  by_cases h1 : w = 1
  · subst h1
    simp (disch := omega) [b_div, b_mul, b_mod]
    exact e1 _
  by_cases h2 : w = 2
  · subst h2
    simp (disch := omega) [b_div, b_mul, b_mod]
    exact e1 _
  by_cases h3 : w = 3
  · subst h3
    simp (disch := omega) [b_div]
    split
    · exact ⟨_, rfl, by omega⟩
    · exact ⟨_, rfl, by omega⟩
  by_cases h6 : w = 6
  · subst h6
    simp (disch := omega) [b_div]
    split
    · rename_i h
      rw [b_mod (by omega)]
      have := Int.emod_nonneg (a + 1) (show (s : Int) - 1 ≠ 0 by omega)
      have := Int.emod_lt_of_pos (a + 1) (show (0 : Int) < (s : Int) - 1 by omega)
      simp
      omega
    · exact ⟨_, rfl, by omega⟩
  by_cases h4 : w = 4
  · subst h4
    simp (disch := omega) [b_div, b_mul]
    split
    · rename_i h
      rw [b_mod (by omega)]
      have := Int.emod_nonneg (2 * b - a) (show (s : Int) / 2 ≠ 0 by omega)
      have := Int.emod_lt_of_pos (2 * b - a) (show (0 : Int) < (s : Int) / 2 by omega)
      simp
      omega
    · split
      · rename_i h
        rw [b_mod (by omega)]
        have := Int.emod_nonneg (2 * b - a - (s : Int) / 2) (show (s : Int) - (s : Int) / 2 ≠ 0 by omega)
        have := Int.emod_lt_of_pos (2 * b - a - (s : Int) / 2) (show (0 : Int) < (s : Int) - (s : Int) / 2 by omega)
        simp
        omega
      · exact ⟨_, rfl, by omega⟩
  · simp (disch := omega) [b_div, h1, h2, h3, h4, h6]
    omega
theorem Tab.mk' {n : Nat} {t : List (List Int)} (h : t.length = n) (h2 : ∀ r ∈ t, r.length = n ∧ ∀ v ∈ r, 0 ≤ v ∧ v < n) : Tab n t := ⟨h, h2⟩
/-- a comprehension over range(n) whose items are ints -/
theorem comp_ints {f : D → R (Option D)} {n : Nat} (P : Int → Prop) (h : ∀ i : Nat, i < n → ∃ v : Int, f (.int (i : Int)) = .ok (some (.int v)) ∧ P v) : ∃ vs : List Int, compL f (rngD 0 n) = .ok (vs.map .int) ∧ vs.length = n ∧ ∀ v ∈ vs, P v := by
  have : ∀ k, k ≤ n → ∃ vs : List Int, compL f ((List.range' (n - k) k).map fun i => .int ((i : Nat) : Int)) = .ok (vs.map .int) ∧ vs.length = k ∧ ∀ v ∈ vs, P v := by
    intro k
    induction k with
    | zero => intro _; exact ⟨[], rfl, rfl, fun v h => by cases h⟩
    | succ k ih =>
      intro hk
      obtain ⟨vs, h1, h2, h3⟩ := ih (by omega)
      obtain ⟨v, h4, h5⟩ := h (n - (k + 1)) (by omega)
      refine ⟨v :: vs, ?_, by simp [h2], ?_⟩
      · rw [List.range'_succ, List.map_cons, compL, h4]
        simp only [ok_bind]
        rw [show n - (k + 1) + 1 = n - k by omega, h1]
        rfl
      · intro x hx
        rcases List.mem_cons.mp hx with rfl | hx
        · exact h5
        · exact h3 x hx
  obtain ⟨vs, h1, h2, h3⟩ := this n (Nat.le_refl _)
  refine ⟨vs, ?_, h2, h3⟩
  rw [← h1]
  congr 1
  unfold rngD
  rw [List.range_eq_range', Nat.sub_self]
  congr 1
  funext i
  simp
theorem made_ok {w : Int} {s f : Nat} (hs : 1 ≤ s ∧ s ≤ 6) (hf : 1 ≤ f ∧ f ≤ 25) : ∃ t, f_made [.int w, .int s, .int f] = .ok (.lst true (t.map eI)) ∧ Tab s t := by
  unfold f_made c_made
  rw [evDef_fin]
  by_cases h : w = 5 ∧ s = 4
  · obtain ⟨rfl, rfl⟩ := h
    refine ⟨[[0, 3, 1, 2], [2, 1, 3, 0], [3, 0, 2, 1], [1, 2, 0, 3]], ?_, rfl, by decide⟩
    simp [gd_d, lim]
  · have hc : (w = 5 ∧ (s : Int) = 4) = False := by
      apply eq_false
      omega
    obtain ⟨j, hj, hg, hlt⟩ := next_ok hf hs
    have wl := whL_turns (c := evT (tfn [("_law_common", 2, f_common), ("_law_cell_of", 5, f_cell_of)]) cst w_made_1) (b := evSs (tfn [("_law_common", 2, f_common), ("_law_cell_of", 5, f_cell_of)]) cst 2000 b_made_1) (kl := [])
      (fun i => [some (.int w), some (.int s), some (.int ((f + i : Nat) : Int)), none, none, none]) (j := j) (k := 0) (n := 2000) (Nat.zero_le _) (by omega) (fun i _ hi => by
        obtain ⟨g, hg1, hg2⟩ := common_ok (f := f + i) (by omega) hs
        have : g ≠ 1 := fun e => hlt i hi (hg2.mp e)
        unfold w_made_1 b_made_1
        simp only [tt_val, x_cmp, x_call, s_cons, s_nil, x_var, getv_s, getv_z, gM_f', isF_int, gd_true, ok_bind, tfn_z, hg1, x_int]
        simp [this, wipeE]
        omega) (by
        obtain ⟨g, hg1, hg2⟩ := common_ok (f := f + j) (by omega) hs
        have : g = 1 := hg2.mpr hg
        subst this
        unfold w_made_1
        simp only [tt_val, x_cmp, x_call, s_cons, s_nil, x_var, getv_s, getv_z, gM_f', isF_int, gd_true, ok_bind, tfn_z, hg1, x_int]
        simp)
    simp only [Nat.add_zero] at wl
    obtain ⟨F, hF⟩ : ∃ F, F = f + j := ⟨_, rfl⟩
    rw [← hF] at wl
    have hF2 : F ≤ 30 := by omega
    obtain ⟨e, h1, t, rfl, hl, ht⟩ := forL_inv (b := evSs (tfn [("_law_common", 2, f_common), ("_law_cell_of", 5, f_cell_of)]) cst 2000 b_made_2) (ct := .one 4) (kl := [4]) (fun i env => ∃ t : List (List Int), env = [some (.int w), some (.int s), some (.int F), some (.lst true (t.map eI)), none, none] ∧ t.length = i ∧ ∀ r ∈ t, r.length = s ∧ ∀ v ∈ r, 0 ≤ v ∧ v < s)
      (xs := rngD 0 s) (e0 := [some (.int w), some (.int s), some (.int F), some (.lst true []), none, none]) (i0 := 0) (fun i env x hp1 hx _ => by
        obtain ⟨t, rfl, hi, ht⟩ := hp1
        obtain ⟨hx1, rfl⟩ := rngD_get hx
        rw [Nat.sub_zero] at hx1 ⊢
        unfold b_made_2
        obtain ⟨vs, hv1, hv2, hv3⟩ := comp_ints (n := s) (fun v => 0 ≤ v ∧ v < s) (f := compB (tfn [("_law_common", 2, f_common), ("_law_cell_of", 5, f_cell_of)]) cst .f (.one 5) false (.val .non) x_made_1 [some (.int w), some (.int s), some (.int F), some (.lst true (t.map eI)), some (.int i), none]) (fun k hk => by
              obtain ⟨v, hv, h0⟩ := cell_of_ok (w := w) (f := F) (a := i) (b := k) hs (by omega) (by omega) (by omega)
              refine ⟨v, ?_, h0⟩
              unfold x_made_1 compB
              simp only [bindT_one, wipeE, slotsT, List.set_cons_succ, List.set_cons_zero, x_call, s_cons, s_nil, x_var, getv_s, getv_z, gM_f', isF_int, gd_true, ok_bind, tfn_s, tfn_z, hv]
              simp)
        simp (disch := omega) [stepL, r_app, i_rng1, gd_d, hv1]
        rw [compR_ok (by simp [lim]; omega), gd_d (by unfold lim; omega)]
        simp [wipeE]
        refine ⟨t ++ [vs], by simp, by simp [hi], ?_⟩
        intro r hr
        rcases List.mem_append.mp hr with hr | hr
        · exact ht r hr
        · rw [List.mem_singleton.mp hr]
          exact ⟨hv2, hv3⟩) ⟨[], rfl, rfl, fun r h => by cases h⟩
    simp [hc]
    rw [wl]
    simp (disch := omega) [i_rng1, gd_d]
    rw [h1]
    simp
    rw [rngD_len] at hl
    exact ⟨t, rfl, by omega, ht⟩
end K44
set_option Elab.async false
set_option linter.all false
set_option maxRecDepth 100000
namespace K44
open PySem L2 TI
def intB (n : Nat) : D → Bool
  | .int v => decide (0 ≤ v) && decide (v < n)
  | _ => false
def rowB (n : Nat) : D → Bool
  | .lst false ys => decide (ys.length = n) && ys.all (intB n)
  | _ => false
def tabB (n : Nat) : R D → Bool
  | .ok (.lst true xs) => decide (xs.length = n) && xs.all (rowB n)
  | _ => false
theorem ints_of {n : Nat} : ∀ {ys : List D}, ys.all (intB n) = true → ∃ vs : List Int, ys = vs.map .int ∧ ∀ v ∈ vs, 0 ≤ v ∧ v < n
  | [], _ => ⟨[], rfl, fun v h => by cases h⟩
  | y :: ys, h => by
    rw [List.all_cons, Bool.and_eq_true] at h
    obtain ⟨vs, rfl, h2⟩ := ints_of h.2
    have h1 := h.1
    unfold intB at h1
    split at h1
    · rename_i v
      refine ⟨v :: vs, rfl, fun x hx => ?_⟩
      rcases List.mem_cons.mp hx with rfl | hx
      · simpa using h1
      · exact h2 x hx
    · cases h1
theorem rows_of {n : Nat} : ∀ {ys : List D}, ys.all (rowB n) = true → ∃ t : List (List Int), ys = t.map eI ∧ ∀ r ∈ t, r.length = n ∧ ∀ v ∈ r, 0 ≤ v ∧ v < n
  | [], _ => ⟨[], rfl, fun v h => by cases h⟩
  | y :: ys, h => by
    rw [List.all_cons, Bool.and_eq_true] at h
    obtain ⟨vs, rfl, h2⟩ := rows_of h.2
    have h1 := h.1
    unfold rowB at h1
    split at h1
    · rename_i zs
      rw [Bool.and_eq_true] at h1
      obtain ⟨r, rfl, h3⟩ := ints_of h1.2
      refine ⟨r :: vs, rfl, fun x hx => ?_⟩
      rcases List.mem_cons.mp hx with rfl | hx
      · exact ⟨by simpa using of_decide_eq_true h1.1, h3⟩
      · exact h2 x hx
    · cases h1
theorem tab_of {n : Nat} {r : R D} (h : tabB n r = true) : ∃ t, r = .ok (.lst true (t.map eI)) ∧ Tab n t := by
  unfold tabB at h
  split at h
  · rw [Bool.and_eq_true] at h
    obtain ⟨t, rfl, h2⟩ := rows_of h.2
    exact ⟨t, rfl, by simpa using of_decide_eq_true h.1, h2⟩
  · cases h
theorem rare_all : (tabB 4 (f_rare [.int 0, .int 4]) && tabB 4 (f_rare [.int 1, .int 4]) && tabB 5 (f_rare [.int 0, .int 5]) && tabB 5 (f_rare [.int 1, .int 5]) && tabB 6 (f_rare [.int 0, .int 6]) && tabB 6 (f_rare [.int 1, .int 6])) = true := by decide +kernel
theorem rare_ok {w : Int} {s : Nat} (hw : 0 ≤ w ∧ w < 2) (hs : 4 ≤ s ∧ s ≤ 6) : ∃ t, f_rare [.int w, .int s] = .ok (.lst true (t.map eI)) ∧ Tab s t := by
  have h := rare_all
  simp only [Bool.and_eq_true] at h
  obtain ⟨⟨⟨⟨⟨h1, h2⟩, h3⟩, h4⟩, h5⟩, h6⟩ := h
  have hw2 : w = 0 ∨ w = 1 := by omega
  have hs2 : s = 4 ∨ s = 5 ∨ s = 6 := by omega
  rcases hw2 with rfl | rfl <;> rcases hs2 with rfl | rfl | rfl <;> exact tab_of (by assumption)
theorem atN {α : Type} {xs : List α} {i : Int} (h0 : 0 ≤ i) (h : i < xs.length) : ixN xs.length i = some i.toNat := by
  unfold ixN
  rw [if_pos h0, if_pos h]
theorem erase_map {α β : Type} (f : α → β) : ∀ (l : List α) (j : Nat), (l.map f).eraseIdx j = (l.eraseIdx j).map f
  | [], j => by simp
  | x :: l, 0 => by simp
  | x :: l, j + 1 => by simp [erase_map f l j]
theorem ordered_ok {n : Nat} {so : List Int} (hn : n ≤ 6) (hl : n ≤ so.length) : ∃ vs : List Int, f_ordered [eI so, .int n] = .ok (.lst true (vs.map .int)) ∧ vs.length = n ∧ ∀ v ∈ vs, 0 ≤ v ∧ v < n := by
  unfold f_ordered c_ordered
  rw [evDef_fin]
  obtain ⟨e, h1, lf, fd, rfl, hf1, hf2, hf3⟩ := forL_inv (b := evSs (tfn []) cst 2000 b_ordered_1) (ct := .one 4) (kl := [4]) (fun i env => ∃ lf fd : List Int, env = [some (eI so), some (.int n), some (.lst true (lf.map .int)), some (.lst true (fd.map .int)), none] ∧ lf.length + i = n ∧ fd.length = i ∧ ∀ v, v ∈ lf ∨ v ∈ fd → 0 ≤ v ∧ v < n)
      (xs := rngD 0 n) (e0 := [some (eI so), some (.int n), some (.lst true (rngD 0 n)), some (.lst true []), none]) (i0 := 0) (fun i env x hp1 hx _ => by
        obtain ⟨lf, fd, rfl, hi, hj, hv⟩ := hp1
        obtain ⟨hx1, rfl⟩ := rngD_get hx
        rw [Nat.sub_zero] at hx1 ⊢
        unfold b_ordered_1
        have ixz : ixD (eI so) (.int (i : Int)) = .ok (.int so[i]) := by
          rw [ix_l (by omega) (by simp; omega)]; simp
        have hlf : 0 < lf.length := by omega
        have em1 := Int.emod_nonneg so[i] (show (lf.length : Int) ≠ 0 by omega)
        have em2 := Int.emod_lt_of_pos so[i] (show (0 : Int) < (lf.length : Int) by omega)
        have q0 : ixN (lf.map D.int).length (so[i] % (lf.length : Int)) = some (so[i] % (lf.length : Int)).toNat := atN em1 (by simpa using em2)
        obtain ⟨q, hq⟩ : ∃ q, q = (so[i] % (lf.length : Int)).toNat := ⟨_, rfl⟩
        have hql : q < lf.length := by omega
        simp (disch := omega) [stepL, r_appPop, ixz, b_mod]
        rw [List.length_map] at q0
        rw [q0, ← hq]
        simp [hql]
        rw [gd_t]
        rotate_left
        · have l1 : lim = 1000000 := rfl
          simp only [Bool.and_eq_true, decide_eq_true_eq]
          omega
        simp [wipeE]
        refine ⟨lf.eraseIdx q, fd ++ [lf[q]], ?_, ?_, by simp [hj], ?_⟩
        · constructor
          · rw [erase_map]
          · simp
        · rw [List.length_eraseIdx_of_lt hql]; omega
        · intro v hv2
          rcases hv2 with hv2 | hv2
          · exact hv v (.inl (List.mem_of_mem_eraseIdx hv2))
          · rcases List.mem_append.mp hv2 with hv2 | hv2
            · exact hv v (.inr hv2)
            · rw [List.mem_singleton.mp hv2]
              exact hv _ (.inl (List.getElem_mem hql))) ⟨(List.range n).map Int.ofNat, [], by
                congr 3
                unfold rngD
                rw [List.map_map]
                simp
                , by simp, rfl, fun v hv => by
                rcases hv with hv | hv
                · obtain ⟨j, hj, rfl⟩ := List.mem_map.mp hv
                  have := List.mem_range.mp hj
                  simp
                  omega
                · cases hv⟩
  simp (disch := omega) [i_rng1, gd_d, x_rngl]
  rw [gd_t]
  rotate_left
  · have l1 : lim = 1000000 := rfl
    simp only [Bool.and_eq_true, decide_eq_true_eq]
    omega
  simp (disch := omega) [i_rng1, gd_d]
  rw [h1]
  simp
  rw [rngD_len] at hf2
  exact ⟨fd, rfl, by omega, fun v hv => hf3 v (.inr hv)⟩

/-- a list of n lists of n -/
theorem tab_at {n : Nat} {t : List (List Int)} (h : Tab n t) {i : Nat} (hi : i < n) : ∃ r, t[i]? = some r ∧ r.length = n ∧ ∀ v ∈ r, 0 ≤ v ∧ v < n := by
  have : i < t.length := by rw [h.1]; exact hi
  exact ⟨t[i], List.getElem?_eq_getElem this, h.2 _ (List.getElem_mem this)⟩
theorem ix_row {o : Bool} {t : List (List Int)} {i : Int} {r : List Int} (h0 : 0 ≤ i) (h : t[i.toNat]? = some r) : ixD (.lst o (t.map eI)) (.int i) = .ok (eI r) := by
  obtain ⟨h1, h2⟩ := List.getElem?_eq_some_iff.mp h
  rw [ix_l h0 (by simpa using h1)]
  simp [h2]
theorem ix_int {o : Bool} {r : List Int} {i v : Int} (h0 : 0 ≤ i) (h : r[i.toNat]? = some v) : ixD (.lst o (r.map .int)) (.int i) = .ok (.int v) := by
  obtain ⟨h1, h2⟩ := List.getElem?_eq_some_iff.mp h
  rw [ix_l h0 (by simpa using h1)]
  simp [h2]
/-- a cell of a table -/
theorem cell_at {n : Nat} {t : List (List Int)} (h : Tab n t) {a b : Int} (ha : 0 ≤ a ∧ a < n) (hb : 0 ≤ b ∧ b < n) : ∃ r v, t[a.toNat]? = some r ∧ r[b.toNat]? = some v ∧ 0 ≤ v ∧ v < n ∧ r.length = n := by
  obtain ⟨r, h1, h2, h3⟩ := tab_at h (i := a.toNat) (by omega)
  have : b.toNat < r.length := by omega
  exact ⟨r, r[b.toNat], h1, List.getElem?_eq_getElem this, (h3 _ (List.getElem_mem this)).1, (h3 _ (List.getElem_mem this)).2, h2⟩
theorem relaid_ok {n : Nat} {t : List (List Int)} {sp : List Int} (hn : n ≤ 6) (ht : Tab n t) (hl : sp.length = n) (hs : ∀ v ∈ sp, 0 ≤ v ∧ v < n) : ∃ u, f_relaid [eT t, eI sp] = .ok (.lst true (u.map fun r => .lst true (r.map .int))) ∧ Tab n u := by
  unfold f_relaid c_relaid
  rw [evDef_fin]
  have spAt : ∀ i : Int, 0 ≤ i → i < n → ∃ v, sp[i.toNat]? = some v ∧ 0 ≤ v ∧ v < n := fun i h1 h2 => by
    have : i.toNat < sp.length := by omega
    exact ⟨sp[i.toNat], List.getElem?_eq_getElem this, hs _ (List.getElem_mem this)⟩
  have cp : compL (compB (tfn []) cst .o (.one 5) false (.val .non) x_relaid_1 [some (eT t), some (eI sp), none, none, none, none]) (t.map eI) = .ok (t.map fun r => .lst true (r.map .int)) := by
    have : ∀ xs : List (List Int), compL (compB (tfn []) cst .o (.one 5) false (.val .non) x_relaid_1 [some (eT t), some (eI sp), none, none, none, none]) (xs.map eI) = .ok (xs.map fun r => .lst true (r.map .int)) := by
      intro xs
      induction xs with
      | nil => rfl
      | cons r rs ih =>
        rw [List.map_cons, compL, ih]
        unfold compB x_relaid_1
        simp [wipeE, slotsT, biD]
    exact this t
  have inner : ∀ (a : Nat), a < n → ∀ u, Tab n u → ∃ u', Tab n u' ∧ forL (evSs (tfn []) cst 2000 b_relaid_1) (.one 4) [4] (rngD 0 n) [some (eT t), some (eI sp), some (.lst true (u.map fun r => .lst true (r.map .int))), some (.int a), none, none] = .nx [some (eT t), some (eI sp), some (.lst true (u'.map fun r => .lst true (r.map .int))), some (.int a), none, none] := by
    intro a ha u hu
    obtain ⟨e, h1, u', rfl, hu'⟩ := forL_inv (b := evSs (tfn []) cst 2000 b_relaid_1) (ct := .one 4) (kl := [4]) (fun i env => ∃ u, env = [some (eT t), some (eI sp), some (.lst true (u.map fun r => .lst true (r.map .int))), some (.int a), none, none] ∧ Tab n u)
      (xs := rngD 0 n) (e0 := [some (eT t), some (eI sp), some (.lst true (u.map fun r => .lst true (r.map .int))), some (.int a), none, none]) (i0 := 0) (fun i env x hp1 hx _ => by
        obtain ⟨u, rfl, hu⟩ := hp1
        obtain ⟨hx1, rfl⟩ := rngD_get hx
        rw [Nat.sub_zero] at hx1 ⊢
        obtain ⟨r, m, c1, c2, c3, c4, c5⟩ := cell_at ht (a := a) (b := i) (by omega) (by omega)
        obtain ⟨va, p1, p2⟩ := spAt a (by omega) (by omega)
        obtain ⟨vb, q1, q2⟩ := spAt i (by omega) (by omega)
        obtain ⟨vm, m1, m2⟩ := spAt m c3 c4
        have a1 : ixD (eI sp) (.int (a : Int)) = .ok (.int va) := ix_int (by omega) p1
        have a2 : ixD (eI sp) (.int (i : Int)) = .ok (.int vb) := ix_int (by omega) q1
        have a3 : ixD (eI sp) (.int m) = .ok (.int vm) := ix_int c3 m1
        have a4 : ixD (eT t) (.int (a : Int)) = .ok (eI r) := ix_row (by omega) c1
        have a5 : ixD (eI r) (.int (i : Int)) = .ok (.int m) := ix_int (by omega) c2
        obtain ⟨ru, hru, hrl, hrv⟩ := tab_at hu (i := va.toNat) (by omega)
        have b1 : ixN u.length va = some va.toNat := atN p2.1 (by rw [hu.1]; exact p2.2)
        have b2 : ixN ru.length vb = some vb.toNat := atN q2.1 (by rw [hrl]; exact q2.2)
        unfold b_relaid_1
        simp [stepL, r_setIx2, a1, a2, a3, a4, a5, b1, hru, asOwn, b2, wipeE]
        refine ⟨u.set va.toNat (ru.set vb.toNat vm), ?_, ?_, ?_⟩
        · rw [List.map_set, List.map_set]
        · rw [List.length_set]; exact hu.1
        · intro r' hr'
          rcases List.mem_or_eq_of_mem_set hr' with h | h
          · exact hu.2 _ h
          · subst h
            refine ⟨by rw [List.length_set]; exact hrl, fun v hv => ?_⟩
            rcases List.mem_or_eq_of_mem_set hv with h | h
            · exact hrv v h
            · rw [h]; exact m2) ⟨u, rfl, hu⟩
    exact ⟨u', hu', h1⟩
  obtain ⟨e, h1, u, rfl, hu⟩ := forL_inv (b := evSs (tfn []) cst 2000 b_relaid_2) (ct := .one 3) (kl := [3, 4]) (fun i env => ∃ u, env = [some (eT t), some (eI sp), some (.lst true (u.map fun r => .lst true (r.map .int))), none, none, none] ∧ Tab n u)
      (xs := rngD 0 n) (e0 := [some (eT t), some (eI sp), some (.lst true (t.map fun r => .lst true (r.map .int))), none, none, none]) (i0 := 0) (fun i env x hp1 hx _ => by
        obtain ⟨u, rfl, hu⟩ := hp1
        obtain ⟨hx1, rfl⟩ := rngD_get hx
        rw [Nat.sub_zero] at hx1 ⊢
        obtain ⟨u', hu', h1⟩ := inner i hx1 u hu
        unfold b_relaid_2
        simp [stepL, i_rng1, ht.1]
        rw [gd_d (by omega)]
        simp [h1, wipeE]
        exact ⟨u', rfl, hu'⟩) ⟨t, rfl, ht⟩
  simp [cp, i_rng1, ht.1]
  rw [compR_ok (by simp [ht.1, lim]; omega)]
  simp [i_rng1, ht.1]
  rw [gd_d (by omega)]
  simp [h1]
  exact ⟨u, rfl, hu⟩
end K44
set_option Elab.async false
set_option linter.all false
set_option maxRecDepth 100000
namespace K44
open PySem L2 TI
theorem cut_from {α : Type} {xs : List α} {k : Nat} (h : k ≤ xs.length) : cutL xs (some (k : Int)) none = xs.drop k := by
  unfold cutL
  rw [HT.sIx_nat, HT.sIx_none, Nat.min_eq_left h]
  apply List.take_of_length_le
  simp
theorem rep_one (k : Nat) (a : Int) : rep k [D.int a] = (List.replicate k a).map .int := by
  unfold rep
  induction k with
  | zero => rfl
  | succ k ih => rw [List.replicate_succ, List.flatten_cons, ih, List.replicate_succ]; rfl
@[simp] theorem fz_eI (o : Bool) (r : List Int) : fz (.lst o (r.map .int)) = eI r := fz_lst (by simp)
@[simp] theorem fz_eT (o : Bool) (t : List (List Int)) : fz (.lst o (t.map eI)) = eT t := fz_lst (by simp)
@[simp] theorem fz_oo (o : Bool) (t : List (List Int)) : fz (.lst o (t.map fun r => .lst true (r.map .int))) = eT t := by
  rw [fz]
  congr 1
  induction t with
  | nil => rfl
  | cons r t ih => rw [List.map_cons, fzs, ih, fz_eI]; rfl
theorem row_get {vs sz : List Int} (hl : vs.length = sz.length) (hv : ∀ (k : Nat) (v z : Int), vs[k]? = some v → sz[k]? = some z → 0 ≤ v ∧ v < z) {k : Nat} {z : Int} (h : sz[k]? = some z) : ∃ v, ixD (eI vs) (.int (k : Int)) = .ok (.int v) ∧ 0 ≤ v ∧ v < z := by
  have hk := (List.getElem?_eq_some_iff.mp h).1
  have hk2 : k < vs.length := by omega
  exact ⟨vs[k], ix_int (by omega) (List.getElem?_eq_getElem (by simpa using hk2)), hv k _ z (List.getElem?_eq_getElem hk2) h⟩
theorem cut_ints {vs : List Int} {k : Nat} (h : k ≤ vs.length) : cutL (vs.map D.int) (some (k : Int)) none = (vs.drop k).map .int := by
  rw [cut_from (by simpa using h), List.map_drop]
theorem table_ok (ns : List Int) (p : Int) (m : Nat) (hp : 0 ≤ p) (hm : 1 ≤ m ∧ m ≤ 6) : ∃ d n t, f_table [.scr ns, .int p, .int m] = .ok d ∧ fz d = eT t ∧ Tab n t ∧ 1 ≤ n ∧ n ≤ m := by
  unfold f_table c_table
  rw [evDef_fin]
  obtain ⟨vs, hr, hl, hv⟩ := row_ok ns ([7, 24, 6, 2] ++ List.replicate 24 24) p hp (by simp) (by
    intro z hz
    rcases List.mem_append.mp hz with hz | hz
    · simp at hz; omega
    · have := List.eq_of_mem_replicate hz; omega)
  have hl28 : vs.length = 28 := by rw [hl]; rfl
  obtain ⟨a, i0, ha⟩ := row_get hl hv (k := 0) (z := 7) rfl
  obtain ⟨b, i1, hb⟩ := row_get hl hv (k := 1) (z := 24) rfl
  obtain ⟨c, i2, hc⟩ := row_get hl hv (k := 2) (z := 6) rfl
  obtain ⟨d, i3, hd⟩ := row_get hl hv (k := 3) (z := 2) rfl
  have m1 := Int.emod_nonneg b (show (m : Int) ≠ 0 by omega)
  have m2 := Int.emod_lt_of_pos b (show (0 : Int) < m by omega)
  obtain ⟨s, hs⟩ : ∃ s : Nat, (s : Int) = 1 + b % m := ⟨(1 + b % m).toNat, by omega⟩
  obtain ⟨f, hf⟩ : ∃ f : Nat, (f : Int) = 2 + c := ⟨(2 + c).toNat, by omega⟩
  obtain ⟨t, ht1, ht2⟩ := made_ok (w := a) (s := s) (f := f) (by omega) (by omega)
  have hsz : binD .Add false (.lst false [.int 7, .int 24, .int 6, .int 2]) (.lst false [.int 24, .int 24, .int 24, .int 24, .int 24, .int 24, .int 24, .int 24, .int 24, .int 24, .int 24, .int 24, .int 24, .int 24, .int 24, .int 24, .int 24, .int 24, .int 24, .int 24, .int 24, .int 24, .int 24, .int 24]) = .ok (eI ([7, 24, 6, 2] ++ List.replicate 24 24)) := by
    rw [b_addL (by simp [lim])]; rfl
  rw [hf] at ht1
  simp only [Int.natCast_zero, Int.natCast_one, show ((2 : Nat) : Int) = 2 from rfl, show ((3 : Nat) : Int) = 3 from rfl] at i0 i1 i2 i3
  have hcut : cutL (vs.map D.int) (some 4) none = (vs.drop 4).map .int := cut_ints (k := 4) (by omega)
  generalize hz : [7, 24, 6, 2] ++ List.replicate 24 (24 : Int) = sz at *
  obtain ⟨o, ho1, ho2, ho3⟩ := ordered_ok (n := s) (so := vs.drop 4) (by omega) (by rw [List.length_drop]; omega)
  obtain ⟨u, hu1, hu2⟩ := relaid_ok (n := s) (t := t) (sp := o) (by omega) ht2 ho2 ho3
  have ho1' : f_ordered [.lst false ((vs.map D.int).drop 4), .int s] = .ok (.lst true (o.map .int)) := by
    rw [← List.map_drop]; exact ho1
  rw [List.map_drop] at hcut
  by_cases hd0 : d = 0
  · simp [gd_d, lim, b_rep, rep_one, hsz, hr, i0, i1, i2, i3, b_mod (show (0 : Int) < m by omega), ← hs, ht1, hd0]
    exact ⟨s, t, rfl, ht2, by omega, by omega⟩
  · simp [gd_d, lim, b_rep, rep_one, hsz, hr, i0, i1, i2, i3, b_mod (show (0 : Int) < m by omega), ← hs, ht1, kidsF, isStr, slD, hd0, hcut, ho1', hu1]
    exact ⟨s, u, rfl, hu2, by omega, by omega⟩
theorem pair_ok (ns : List Int) (m : Nat) (hm : 1 ≤ m ∧ m ≤ 6) : ∃ d n t k u, f_pair [.scr ns, .int m] = .ok d ∧ fz d = .tup [eT t, eT u] ∧ Tab n t ∧ Tab k u ∧ 1 ≤ n ∧ n ≤ m ∧ 1 ≤ k ∧ k ≤ m := by
  unfold f_pair c_pair
  rw [evDef_fin]
  obtain ⟨vs, hr, hl, hv⟩ := row_ok ns ([3] ++ List.replicate 8 24) 2 (by omega) (by simp) (by
    intro z hz
    rcases List.mem_append.mp hz with hz | hz
    · simp at hz; omega
    · have := List.eq_of_mem_replicate hz; omega)
  have hl9 : vs.length = 9 := by rw [hl]; rfl
  obtain ⟨a, i0, ha⟩ := row_get hl hv (k := 0) (z := 3) rfl
  obtain ⟨b, i1, hb⟩ := row_get hl hv (k := 1) (z := 24) rfl
  obtain ⟨c, i2, hc⟩ := row_get hl hv (k := 2) (z := 24) rfl
  obtain ⟨d, i3, hd⟩ := row_get hl hv (k := 3) (z := 24) rfl
  obtain ⟨ws, hr2, hl2, hv2⟩ := row_ok ns [5, 2] 6 (by omega) (by simp) (by
    intro z hz
    simp at hz; omega)
  obtain ⟨e, j0, he⟩ := row_get hl2 hv2 (k := 0) (z := 5) rfl
  obtain ⟨f, j1, hf⟩ := row_get hl2 hv2 (k := 1) (z := 2) rfl
  obtain ⟨x, n, t, ht1, ht2, ht3, ht4, ht5⟩ := table_ok ns 0 m (by omega) hm
  have hsz : binD .Add false (.lst false [.int 3]) (.lst false [.int 24, .int 24, .int 24, .int 24, .int 24, .int 24, .int 24, .int 24]) = .ok (eI ([3] ++ List.replicate 8 24)) := by
    rw [b_addL (by simp [lim])]; rfl
  obtain ⟨R, hR⟩ : ∃ R, R = vs.drop 1 := ⟨_, rfl⟩
  have hRl : R.length = 8 := by rw [hR, List.length_drop]; omega
  have hcut : cutL (vs.map D.int) (some 1) none = R.map .int := by rw [hR]; exact cut_ints (k := 1) (by omega)
  generalize hz : [3] ++ List.replicate 8 (24 : Int) = sz at *
  have hr2' : f_row [.scr ns, .int 6, .lst false [.int 5, .int 2]] = .ok (.lst true (ws.map .int)) := hr2
  simp only [Int.natCast_zero, Int.natCast_one, show ((2 : Nat) : Int) = 2 from rfl, show ((3 : Nat) : Int) = 3 from rfl] at i0 i1 i2 i3 j0 j1
  -- what follows, with the first table known
  have fin2 : ∀ t1 : List (List Int), Tab n t1 → ∃ dd n t k u, fin (evSs (tfn [("_law_row", 3, f_row), ("_law_table", 3, f_table), ("_law_rare", 2, f_rare), ("_law_relaid", 2, f_relaid), ("_law_ordered", 2, f_ordered), ("_law_made", 3, f_made)]) cst 2000
      (.cons (.ifs (.val (.cmp .Gt (.ix (.var 2) (.int 0)) (.int 0))) (.cons (.ret (.tup (.cons (.var 3) (.cons (.call 3 (.cons (.var 3) (.cons (.call 4 (.cons (.sl (.var 2) (.some (.int 1)) .none) (.cons (.len (.var 3)) .nil))) .nil))) .nil)))) .nil) .nil) (.cons (.set 5 .f (.call 1 (.cons (.var 0) (.cons (.int 1) (.cons (.var 1) .nil))))) (.cons (.ifs (.bo true (.cons (.val (.cmp .NotEq (.len (.var 5)) (.len (.var 3)))) (.cons (.val (.cmp .Gt (.bin .Mod (.ix (.var 2) (.int 1)) (.int 3)) (.int 0))) .nil))) (.cons (.set 5 .f (.call 5 (.cons (.bin .Mod (.ix (.var 2) (.int 2)) (.int 7)) (.cons (.len (.var 3)) (.cons (.bin .Add (.int 1) (.ix (.var 2) (.int 3))) .nil))))) .nil) .nil) (.cons (.ret (.tup (.cons (.var 3) (.cons (.var 5) .nil)))) .nil))))
      [some (.scr ns), some (.int m), some (eI vs), some (eT t1), some (eI ws), none]) = .ok dd ∧ fz dd = .tup [eT t, eT u] ∧ Tab n t ∧ Tab k u ∧ 1 ≤ n ∧ n ≤ m ∧ 1 ≤ k ∧ k ≤ m := by
    intro t1 h1
    by_cases ha0 : 0 < a
    · obtain ⟨o, ho1, ho2, ho3⟩ := ordered_ok (n := n) (so := R) (by omega) (by omega)
      obtain ⟨u, hu1, hu2⟩ := relaid_ok (n := n) (t := t1) (sp := o) (by omega) h1 ho2 ho3
      refine ⟨.tup [eT t1, eT u], n, t1, n, u, ?_, rfl, h1, hu2, by omega, by omega, by omega, by omega⟩
      simp [i0, ha0, kidsF, isStr, slD, hcut, h1.1, ho1, hu1, gd_d, lim]
    · obtain ⟨y, k, u, hu1, hu2, hu3, hu4, hu5⟩ := table_ok ns 1 m (by omega) hm
      by_cases hc1 : k ≠ n ∧ 0 < b % 3
      · have m1 := Int.emod_nonneg c (show (7 : Int) ≠ 0 by omega)
        obtain ⟨g, hg⟩ : ∃ g : Nat, (g : Int) = 1 + d := ⟨(1 + d).toNat, by omega⟩
        obtain ⟨v, hv1, hv2⟩ := made_ok (w := c % 7) (s := n) (f := g) (by omega) (by omega)
        rw [hg] at hv1
        have hc2 : ¬ (k = n) := by omega
        refine ⟨.tup [eT t1, eT v], n, t1, n, v, ?_, rfl, h1, hv2, by omega, by omega, by omega, by omega⟩
        simp [i0, i1, i2, i3, ha0, hu1, hu2, hu3.1, h1.1, b_mod, hc2, hc1.2, hv1, gd_d, lim]
        intro hkn
        exact absurd hkn (by omega)
      · have hc2 : (¬ (k = n) ∧ 0 < b % 3) = False := by
          apply eq_false
          intro z
          exact hc1 ⟨by omega, z.2⟩
        refine ⟨.tup [eT t1, eT u], n, t1, k, u, ?_, rfl, h1, hu3, by omega, by omega, by omega, by omega⟩
        simp [i0, i1, i2, i3, ha0, hu1, hu2, hu3.1, h1.1, b_mod, hc2, gd_d, lim]
        intro z1 z2
        exact absurd ⟨by omega, z2⟩ hc1
  by_cases hc : e = 0 ∧ 3 < n
  · obtain ⟨q, hq1, hq2⟩ := rare_ok (w := f) (s := n) (by omega) (by omega)
    obtain ⟨dd, n', t', k', u', h, rest⟩ := fin2 q hq2
    refine ⟨dd, n', t', k', u', ?_, rest⟩
    rw [← h]
    clear h
    have hc2 : (3 : Int) < n := by omega
    rw [r_cons, r_set]
    simp only [x_call, s_cons, s_nil, x_var, x_int, x_bin, x_lst, getv_z, getv_s, List.map_cons, List.map_nil, List.cons_append]
    simp only [r_cons, r_set]
    simp [gd_d, lim, b_rep, rep_one, hsz, hr, hr2', ht1, ht2, ht3.1, j0, j1, hc.1, hc2, hq1, List.replicate]
  · have hc2 : (e = 0 ∧ 3 < n) = False := by
      apply eq_false
      exact hc
    obtain ⟨dd, n', t', k', u', h, rest⟩ := fin2 t ht3
    refine ⟨dd, n', t', k', u', ?_, rest⟩
    rw [← h]
    simp [gd_d, lim, b_rep, rep_one, hsz, hr, hr2', ht1, ht2, ht3.1, j0, j1, hc2]
    intro z1 z2
    exact absurd ⟨z1, by omega⟩ hc
end K44
set_option Elab.async false
set_option linter.all false
set_option maxRecDepth 100000
namespace K44
open PySem L2 TI
/-! what the functions say, plainly -/
def nth (r : List Int) (i : Int) : Int := r.getD i.toNat 0
def row (t : List (List Int)) (i : Int) : List Int := t.getD i.toNat []
def cel (t : List (List Int)) (a b : Int) : Int := nth (row t a) b
def rng (n : Nat) (im : List Int) : Bool := decide im.Nodup && im.all fun c => decide (0 ≤ c) && decide (c < n)
def inside (im : List Int) (a : Int) : Bool := decide (0 ≤ a) && decide (a < im.length)
def hit (one other : List (List Int)) (im : List Int) (a b : Int) : Bool := decide (cel one a b < im.length) && decide (cel other (nth im a) (nth im b) ≠ nth im (cel one a b))
def brk (n : Nat) (one other : List (List Int)) (im : List Int) (a b : Int) : Bool := rng n im && (inside im a && inside im b) && hit one other im a b
theorem rng_iff {n : Nat} {im : List Int} : rng n im = true ↔ im.Nodup ∧ ∀ c ∈ im, 0 ≤ c ∧ c < n := by
  unfold rng
  simp
theorem pig : ∀ (n : Nat) (l : List Int), l.Nodup → (∀ c ∈ l, 0 ≤ c ∧ c < n) → l.length ≤ n
  | 0, l, _, h => by
    cases l with
    | nil => exact Nat.le_refl _
    | cons x r => have := h x (by simp); omega
  | n + 1, l, hd, h => by
    have ih := pig n (l.erase n) (hd.erase _) fun c hc => by
      rw [hd.mem_erase_iff] at hc
      have := h c hc.2
      have := hc.1
      omega
    by_cases hm : (n : Int) ∈ l
    · rw [List.length_erase_of_mem hm] at ih
      omega
    · rw [List.erase_of_not_mem hm] at ih
      omega
theorem nth_mem {r : List Int} {i : Int} (h0 : 0 ≤ i) (h : i < r.length) : nth r i ∈ r := by
  have : i.toNat < r.length := by omega
  unfold nth
  rw [List.getD_eq_getElem?_getD, List.getElem?_eq_getElem this]
  exact List.getElem_mem this
theorem ix_nth {o : Bool} {r : List Int} {i : Int} (h0 : 0 ≤ i) (h : i < r.length) : ixD (.lst o (r.map .int)) (.int i) = .ok (.int (nth r i)) := by
  have : i.toNat < r.length := by omega
  refine ix_int h0 ?_
  unfold nth
  rw [List.getD_eq_getElem?_getD, List.getElem?_eq_getElem this]
  rfl
theorem ix_nthT {r : List Int} {i : Int} (h0 : 0 ≤ i) (h : i < r.length) : ixD (.tup (r.map .int)) (.int i) = .ok (.int (nth r i)) := by
  have e : ixD (.tup (r.map .int)) (.int i) = ixD (.lst false (r.map .int)) (.int i) := rfl
  rw [e]
  exact ix_nth h0 h
theorem ix_rowT {t : List (List Int)} {i : Int} (h0 : 0 ≤ i) (h : i < t.length) : ixD (eT t) (.int i) = .ok (eI (row t i)) := by
  have : i.toNat < t.length := by omega
  refine ix_row h0 ?_
  unfold row
  rw [List.getD_eq_getElem?_getD, List.getElem?_eq_getElem this]
  rfl
theorem row_mem {t : List (List Int)} {i : Int} (h0 : 0 ≤ i) (h : i < t.length) : row t i ∈ t := by
  have : i.toNat < t.length := by omega
  unfold row
  rw [List.getD_eq_getElem?_getD, List.getElem?_eq_getElem this]
  exact List.getElem_mem this
theorem cel_ok {n : Nat} {t : List (List Int)} (h : Tab n t) {a b : Int} (ha : 0 ≤ a ∧ a < n) (hb : 0 ≤ b ∧ b < n) : (row t a).length = n ∧ 0 ≤ cel t a b ∧ cel t a b < n := by
  obtain ⟨h1, h2⟩ := h.2 _ (row_mem ha.1 (by rw [h.1]; exact ha.2))
  exact ⟨h1, h2 _ (nth_mem hb.1 (by rw [h1]; exact hb.2))⟩
/-- the last row of breaks, breaks_there -/
theorem tail_ok {n : Nat} {one other : List (List Int)} {im : List Int} {a b : Int} {Φ : Nat → List D → R D} (h1 : Tab n one) (h2 : Tab n other) (hr : rng n im = true) (ha : inside im a = true) (hb : inside im b = true) {e5 : Option D} :
    fin (evSs Φ cst 2000 (.cons (.set 6 .f (.ix (.ix (.var 0) (.var 3)) (.var 4))) (.cons (.ret (.bo true (.cons (.cmp .Lt (.var 6) (.len (.var 2))) (.cons (.cmp .NotEq (.ix (.ix (.var 1) (.ix (.var 2) (.var 3))) (.ix (.var 2) (.var 4))) (.ix (.var 2) (.var 6))) .nil)))) .nil))
      [some (eT one), some (eT other), some (.tup (im.map .int)), some (.int a), some (.int b), e5, none]) = .ok (.bl (hit one other im a b)) := by
  obtain ⟨hn, hin⟩ := rng_iff.mp hr
  have hl := pig n im hn hin
  simp only [inside, Bool.and_eq_true, decide_eq_true_eq] at ha hb
  have ha' : 0 ≤ a ∧ a < n := by omega
  have hb' : 0 ≤ b ∧ b < n := by omega
  obtain ⟨c1, c2, c3⟩ := cel_ok h1 ha' hb'
  have q1 : ixD (eT one) (.int a) = .ok (eI (row one a)) := ix_rowT ha.1 (by rw [h1.1]; exact ha'.2)
  have q2 : ixD (eI (row one a)) (.int b) = .ok (.int (cel one a b)) := ix_nth hb.1 (by rw [c1]; exact hb'.2)
  have q3 : ixD (.tup (im.map .int)) (.int a) = .ok (.int (nth im a)) := ix_nthT ha.1 ha.2
  have q4 : ixD (.tup (im.map .int)) (.int b) = .ok (.int (nth im b)) := ix_nthT hb.1 hb.2
  obtain ⟨m1, m2⟩ := hin _ (nth_mem ha.1 ha.2)
  obtain ⟨m3, m4⟩ := hin _ (nth_mem hb.1 hb.2)
  have q5 : ixD (eT other) (.int (nth im a)) = .ok (eI (row other (nth im a))) := ix_rowT m1 (by rw [h2.1]; exact m2)
  obtain ⟨d1, d2, d3⟩ := cel_ok h2 ⟨m1, m2⟩ ⟨m3, m4⟩
  have q6 : ixD (eI (row other (nth im a))) (.int (nth im b)) = .ok (.int (cel other (nth im a) (nth im b))) := ix_nth m3 (by rw [d1]; exact m4)
  unfold hit
  by_cases hm : cel one a b < im.length
  · have q7 : ixD (.tup (im.map .int)) (.int (cel one a b)) = .ok (.int (nth im (cel one a b))) := ix_nthT c2 hm
    simp [q1, q2, q3, q4, q5, q6, q7, hm]
  · simp [q1, q2, hm]
def chk (n : Nat) (im : List Int) (x : D) : Option D := match x with
  | .int c => if 0 ≤ c ∧ c < n ∧ im.count c ≤ 1 then none else some (.bl false)
  | _ => none
theorem chk_int {n : Nat} {im : List Int} {c : Int} : chk n im (.int c) = if 0 ≤ c ∧ c < n ∧ im.count c ≤ 1 then none else some (.bl false) := rfl
theorem breaks_ok {n : Nat} {one other : List (List Int)} (h1 : Tab n one) (h2 : Tab n other) (im : List Int) (a b : Int) : f_breaks [eT one, eT other, .tup (im.map .int), .int a, .int b] = .ok (.bl (brk n one other im a b)) := by
  unfold f_breaks c_breaks
  rw [evDef_fin]
  obtain ⟨l1, l2⟩ := forL_find (b := evSs (tfn []) cst 2000 b_breaks_1) (ct := .one 5) (kl := [5]) (E := [some (eT one), some (eT other), some (.tup (im.map .int)), some (.int a), some (.int b), none, none])
    (chk n im) (xs := im.map .int) (fun x hx => by
      obtain ⟨c, hc, rfl⟩ := List.mem_map.mp hx
      have e : stepL (evSs (tfn []) cst 2000 b_breaks_1) (.one 5) [5] [some (eT one), some (eT other), some (.tup (im.map .int)), some (.int a), some (.int b), none, none] (.int c) =
          if 0 ≤ c ∧ c < n ∧ im.count c ≤ 1 then .nx [some (eT one), some (eT other), some (.tup (im.map .int)), some (.int a), some (.int b), none, none] else .rt (.bl false) [some (eT one), some (eT other), some (.tup (im.map .int)), some (.int a), some (.int b), some (.int c), none] := by
        unfold b_breaks_1
        by_cases k1 : 0 ≤ c
        · by_cases k2 : c < n
          · by_cases k3 : im.count c ≤ 1
            · have k4 : ¬ (1 : Int) < ((im.count c : Nat) : Int) := by omega
              simp [stepL, h2.1, k1, k2, k3, asTup, tcountD, intsD_map, k4, wipeE]
            · have k4 : (1 : Int) < ((im.count c : Nat) : Int) := by omega
              simp [stepL, h2.1, k1, k2, k3, asTup, tcountD, intsD_map, k4, wipeE]
          · simp [stepL, h2.1, k1, k2]
        · simp [stepL, h2.1, k1]
      rw [e, chk_int]
      by_cases k : 0 ≤ c ∧ c < n ∧ im.count c ≤ 1
      · simp [k]
      · simp [k])
  have st1 : evS (tfn []) cst 2000 (.fors (.one 5) (.ex (.var 2)) [5] b_breaks_1) [some (eT one), some (eT other), some (.tup (im.map .int)), some (.int a), some (.int b), none, none] = forL (evSs (tfn []) cst 2000 b_breaks_1) (.one 5) [5] (im.map .int) [some (eT one), some (eT other), some (.tup (im.map .int)), some (.int a), some (.int b), none, none] := by
    simp
  simp only [List.map_cons, List.map_nil, List.length_cons, List.length_nil, List.cons_append, List.nil_append, show List.replicate (7 - (0 + 1 + 1 + 1 + 1 + 1)) (none : Option D) = [none, none] from rfl]
  rw [r_cons, st1]
  by_cases hr : rng n im = true
  · obtain ⟨hn, hin⟩ := rng_iff.mp hr
    have f0 : (im.map D.int).findSome? (chk n im) = none := by
      rw [List.findSome?_eq_none_iff]
      intro x hx
      obtain ⟨c, hc, rfl⟩ := List.mem_map.mp hx
      have := hin c hc
      have := List.nodup_iff_count.mp hn c
      rw [chk_int, if_pos (by omega)]
    rw [l1 f0, nx_thn, r_cons]
    by_cases ha : inside im a = true
    · by_cases hb : inside im b = true
      · have ha2 := ha
        have hb2 := hb
        simp only [inside, Bool.and_eq_true, decide_eq_true_eq] at ha2 hb2
        have st2 : evS (tfn []) cst 2000 (.ifs (.bo false (.cons (.val (.cmp .Lt (.bi .min2 (.cons (.var 3) (.cons (.var 4) .nil))) (.int 0))) (.cons (.val (.cmp .GtE (.bi .max2 (.cons (.var 3) (.cons (.var 4) .nil))) (.len (.var 2)))) .nil))) (.cons (.ret (.bl false)) .nil) .nil) [some (eT one), some (eT other), some (.tup (im.map .int)), some (.int a), some (.int b), none, none] = .nx [some (eT one), some (eT other), some (.tup (im.map .int)), some (.int a), some (.int b), none, none] := by
          simp [biD]
          omega
        rw [st2, nx_thn, tail_ok h1 h2 hr ha hb]
        unfold brk
        rw [hr, ha, hb]
        simp
      · have hb2 := hb
        simp only [inside, Bool.and_eq_true, decide_eq_true_eq] at hb2
        have hb3 : inside im b = false := by simpa using hb
        unfold brk
        rw [hb3]
        simp [biD]
        intro q1 q2
        exact absurd ⟨by omega, by omega⟩ hb2
    · have ha2 := ha
      simp only [inside, Bool.and_eq_true, decide_eq_true_eq] at ha2
      have ha3 : inside im a = false := by simpa using ha
      unfold brk
      rw [ha3]
      simp [biD]
      intro q1 q2
      exact absurd ⟨by omega, by omega⟩ ha2
  · have f0 : (im.map D.int).findSome? (chk n im) = some (.bl false) := by
      cases hf : (im.map D.int).findSome? (chk n im) with
      | none =>
        exfalso
        apply hr
        rw [rng_iff]
        rw [List.findSome?_eq_none_iff] at hf
        have hf2 : ∀ c ∈ im, 0 ≤ c ∧ c < n ∧ im.count c ≤ 1 := fun c hc => by
          have := hf (.int c) (List.mem_map_of_mem hc)
          rw [chk_int] at this
          by_cases k : 0 ≤ c ∧ c < n ∧ im.count c ≤ 1
          · exact k
          · rw [if_neg k] at this; cases this
        refine ⟨List.nodup_iff_count.mpr fun c => ?_, fun c hc => ⟨(hf2 c hc).1, (hf2 c hc).2.1⟩⟩
        by_cases hc : c ∈ im
        · exact (hf2 c hc).2.2
        · rw [List.count_eq_zero_of_not_mem hc]; omega
      | some d =>
        obtain ⟨x, hx, hd⟩ := List.exists_of_findSome?_eq_some hf
        obtain ⟨c, hc, rfl⟩ := List.mem_map.mp hx
        rw [chk_int] at hd
        split at hd
        · cases hd
        · exact hd.symm
    obtain ⟨e, he⟩ := l2 _ f0
    have hr2 : rng n im = false := by simpa using hr
    rw [he]
    unfold brk
    rw [hr2]
    simp
end K44
set_option Elab.async false
set_option linter.all false
set_option maxRecDepth 100000
namespace K44
open PySem L2 TI
theorem nodupN_le : ∀ l : List Int, nodupN l ≤ l.length
  | [] => Nat.le_refl _
  | x :: r => by
    unfold nodupN
    have := nodupN_le r
    split <;> simp <;> omega
theorem nodupN_iff : ∀ {l : List Int}, nodupN l = l.length ↔ l.Nodup
  | [] => by simp [nodupN]
  | x :: r => by
    unfold nodupN
    have ih := nodupN_iff (l := r)
    have hle := nodupN_le r
    rw [List.nodup_cons, List.length_cons]
    by_cases h : x ∈ r
    · simp [h]; omega
    · simp [h, ih]
def chk2 (n : Nat) (x : D) : Option D := match x with
  | .int c => if 0 ≤ c ∧ c < n then none else some (.bl false)
  | _ => none
theorem chk2_int {n : Nat} {c : Int} : chk2 n (.int c) = if 0 ≤ c ∧ c < n then none else some (.bl false) := rfl
theorem breaks_there_ok {n : Nat} {one other : List (List Int)} (h1 : Tab n one) (h2 : Tab n other) (im : List Int) (a b : Int) (hl : im.length ≤ 4000) : f_breaks_there [eT one, eT other, .tup (im.map .int), .int a, .int b] = .ok (.bl (brk n one other im a b)) := by
  unfold f_breaks_there c_breaks_there
  rw [evDef_fin]
  obtain ⟨l1, l2⟩ := forL_find (b := evSs (tfn []) cst 2000 b_breaks_there_1) (ct := .one 5) (kl := [5]) (E := [some (eT one), some (eT other), some (.tup (im.map .int)), some (.int a), some (.int b), none, none])
    (chk2 n) (xs := im.map .int) (fun x hx => by
      obtain ⟨c, hc, rfl⟩ := List.mem_map.mp hx
      have e : stepL (evSs (tfn []) cst 2000 b_breaks_there_1) (.one 5) [5] [some (eT one), some (eT other), some (.tup (im.map .int)), some (.int a), some (.int b), none, none] (.int c) =
          if 0 ≤ c ∧ c < n then .nx [some (eT one), some (eT other), some (.tup (im.map .int)), some (.int a), some (.int b), none, none] else .rt (.bl false) [some (eT one), some (eT other), some (.tup (im.map .int)), some (.int a), some (.int b), some (.int c), none] := by
        unfold b_breaks_there_1
        by_cases k1 : 0 ≤ c
        · by_cases k2 : c < n
          · simp [stepL, h2.1, k1, k2, wipeE]
          · simp [stepL, h2.1, k1, k2]
        · simp [stepL, h2.1, k1]
      rw [e, chk2_int]
      by_cases k : 0 ≤ c ∧ c < n
      · simp [k]
      · simp [k])
  have st0 : ∀ q : Bool, q = decide im.Nodup → evS (tfn []) cst 2000 (.ifs (.val (.cmp .NotEq (.lset (.var 2)) (.len (.var 2)))) (.cons (.ret (.bl false)) .nil) .nil) [some (eT one), some (eT other), some (.tup (im.map .int)), some (.int a), some (.int b), none, none] =
      if q = true then .nx [some (eT one), some (eT other), some (.tup (im.map .int)), some (.int a), some (.int b), none, none] else .rt (.bl false) [some (eT one), some (eT other), some (.tup (im.map .int)), some (.int a), some (.int b), none, none] := by
    intro q hq
    by_cases hn : im.Nodup
    · have := nodupN_iff.mpr hn
      simp [lsetD, intsD_map, gd_d hl, this, hq, hn]
    · have : ¬ ((nodupN im : Nat) : Int) = ((im.length : Nat) : Int) := fun z => hn (nodupN_iff.mp (by omega))
      simp [lsetD, intsD_map, gd_d hl, this, hq, hn]
  have st1 : evS (tfn []) cst 2000 (.fors (.one 5) (.ex (.var 2)) [5] b_breaks_there_1) [some (eT one), some (eT other), some (.tup (im.map .int)), some (.int a), some (.int b), none, none] = forL (evSs (tfn []) cst 2000 b_breaks_there_1) (.one 5) [5] (im.map .int) [some (eT one), some (eT other), some (.tup (im.map .int)), some (.int a), some (.int b), none, none] := by
    simp
  simp only [List.map_cons, List.map_nil, List.length_cons, List.length_nil, List.cons_append, List.nil_append, show List.replicate (7 - (0 + 1 + 1 + 1 + 1 + 1)) (none : Option D) = [none, none] from rfl]
  rw [r_cons, st0 _ rfl]
  by_cases hn : im.Nodup
  · rw [decide_eq_true hn, if_pos rfl, nx_thn, r_cons, st1]
    by_cases hr : rng n im = true
    · obtain ⟨_, hin⟩ := rng_iff.mp hr
      have f0 : (im.map D.int).findSome? (chk2 n) = none := by
        rw [List.findSome?_eq_none_iff]
        intro x hx
        obtain ⟨c, hc, rfl⟩ := List.mem_map.mp hx
        have := hin c hc
        rw [chk2_int, if_pos (by omega)]
      rw [l1 f0, nx_thn, r_cons]
      by_cases ha : inside im a = true
      · by_cases hb : inside im b = true
        · have ha2 := ha
          have hb2 := hb
          simp only [inside, Bool.and_eq_true, decide_eq_true_eq] at ha2 hb2
          have st2 : evS (tfn []) cst 2000 (.ifs (.bo false (.cons (.no (.val (.chn .LtE .Lt (.int 0) (.var 3) (.len (.var 2))))) (.cons (.no (.val (.chn .LtE .Lt (.int 0) (.var 4) (.len (.var 2))))) .nil))) (.cons (.ret (.bl false)) .nil) .nil) [some (eT one), some (eT other), some (.tup (im.map .int)), some (.int a), some (.int b), none, none] = .nx [some (eT one), some (eT other), some (.tup (im.map .int)), some (.int a), some (.int b), none, none] := by
            simp [ha2, hb2]
          rw [st2, nx_thn, tail_ok h1 h2 hr ha hb]
          unfold brk
          rw [hr, ha, hb]
          simp
        · have ha2 := ha
          have hb2 := hb
          simp only [inside, Bool.and_eq_true, decide_eq_true_eq] at ha2 hb2
          have hb3 : inside im b = false := by simpa using hb
          unfold brk
          rw [hb3]
          by_cases k : 0 ≤ b
          · have k2 : ¬ b < im.length := fun z => hb2 ⟨k, z⟩
            simp [ha2, k, k2]
          · simp [ha2, k]
      · have ha2 := ha
        simp only [inside, Bool.and_eq_true, decide_eq_true_eq] at ha2
        have ha3 : inside im a = false := by simpa using ha
        unfold brk
        rw [ha3]
        by_cases k : 0 ≤ a
        · have k2 : ¬ a < im.length := fun z => ha2 ⟨k, z⟩
          simp [k, k2]
        · simp [k]
    · have f0 : (im.map D.int).findSome? (chk2 n) = some (.bl false) := by
        cases hf : (im.map D.int).findSome? (chk2 n) with
        | none =>
          exfalso
          apply hr
          rw [rng_iff]
          rw [List.findSome?_eq_none_iff] at hf
          refine ⟨hn, fun c hc => ?_⟩
          have := hf (.int c) (List.mem_map_of_mem hc)
          rw [chk2_int] at this
          by_cases k : 0 ≤ c ∧ c < n
          · exact k
          · rw [if_neg k] at this; cases this
        | some d =>
          obtain ⟨x, hx, hd⟩ := List.exists_of_findSome?_eq_some hf
          obtain ⟨c, hc, rfl⟩ := List.mem_map.mp hx
          rw [chk2_int] at hd
          split at hd
          · cases hd
          · exact hd.symm
      obtain ⟨e, he⟩ := l2 _ f0
      have hr2 : rng n im = false := by simpa using hr
      rw [he]
      unfold brk
      rw [hr2]
      simp
  · have hr2 : rng n im = false := by
      cases h : rng n im with
      | false => rfl
      | true => exact absurd (rng_iff.mp h).1 hn
    rw [decide_eq_false hn, if_neg (by decide)]
    unfold brk
    rw [hr2]
    simp
/-- the lists longer by one -/
def lng (n : Nat) (im : List Int) : List (List Int) := (List.range n).filterMap fun c => if ((c : Nat) : Int) ∈ im then none else some (im ++ [((c : Nat) : Int)])
theorem notin_ok {c : Int} {im : List Int} : cmpD .NotIn (.int c) (eI im) = .ok (.bl (decide (c ∉ im))) := by
  have e : ∀ l : List Int, inD (.int c) (l.map .int) = decide (c ∈ l) := by
    intro l
    induction l with
    | nil => rfl
    | cons x l ih =>
      show (eqV (.int x) (.int c) || inD (.int c) (l.map .int)) = _
      rw [ih]
      show ((x == c) || decide (c ∈ l)) = _
      by_cases h : x = c
      · subst h; simp
      · have : ¬ c = x := fun z => h z.symm
        simp [h, this]
  have f : (im.map D.int).all flatD = true := by
    rw [List.all_map]; exact List.all_eq_true.mpr fun _ _ => rfl
  show (do let ys ← itemsD (eI im); gd (flatD (.int c) && ys.all flatD); R.ok (D.bl (!inD (.int c) ys)) : R D) = _
  simp only [itemsD, ok_bind, f]
  simp [flatD, e]
theorem longer_at {cs : CB} {xe : CE} (hcs : cs = .val (.cmp .NotIn (.var 2) (.var 0))) (hxe : xe = .bin .Add (.var 0) (.lst (.cons (.var 2) .nil))) {n : Nat} (im : List Int) (hn : n ≤ 10) (hl : im.length ≤ 100) (N : Nat) (hN : N = 3) :
    evDef (tfn []) cst 2000 N (.cons (.ret (.comp (.one 2) (.rng1 (.var 1)) true cs xe)) .nil) [eI im, .int n] = .ok (.lst true ((lng n im).map fun r => .lst true (r.map .int))) := by
  subst hN
  rw [evDef_fin]
  have cp : compL (compB (tfn []) cst .o (.one 2) true cs xe [some (eI im), some (.int n), none]) (rngD 0 n) = .ok ((lng n im).map fun r => .lst true (r.map .int)) := by
    have e := compL_eq (f := compB (tfn []) cst .o (.one 2) true cs xe [some (eI im), some (.int n), none]) (g := fun x => match x with | .int c => if c ∈ im then none else some (.lst true ((im ++ [c]).map .int)) | _ => none) (xs := rngD 0 n) (fun x hx => by
      obtain ⟨i, hi⟩ := List.mem_iff_getElem?.mp hx
      obtain ⟨h1, rfl⟩ := rngD_get hi
      subst hcs hxe
      unfold compB
      simp only [bindT_one, ok_bind, slotsT, wipeE, List.set_cons_succ, List.set_cons_zero, tt_val, x_cmp, x_var, getv_s, getv_z, gM_f', gM_b, isF_int, gd_true, notin_ok, isBl_bl, if_true]
      have hadd : binD .Add true (eI im) (.lst false [.int i]) = .ok (.lst true (im.map .int ++ [.int i])) := b_addL (by simp [lim]; omega)
      by_cases hc : (i : Int) ∈ im
      · simp [hc]
      · simp [hc, gd_d, lim, hadd])
    rw [e]
    congr 1
    unfold rngD lng
    rw [List.filterMap_map, List.map_filterMap]
    congr 1
    funext c
    simp only [Function.comp, Int.zero_add]
    by_cases hc : ((c : Nat) : Int) ∈ im
    · simp [hc]
    · simp [hc]
  simp [i_rng1]
  rw [gd_d (by omega)]
  simp [cp]
  rw [compR_ok]
  · simp
  · have : (lng n im).length ≤ n := by
      unfold lng
      exact Nat.le_trans (List.length_filterMap_le _ _) (by simp)
    simp [lim]
    omega
theorem longer_ok {n : Nat} (im : List Int) (hn : n ≤ 10) (hl : im.length ≤ 100) : f_longer [eI im, .int n] = .ok (.lst true ((lng n im).map fun r => .lst true (r.map .int))) :=
  longer_at (cs := q_longer_1) (xe := x_longer_1) rfl rfl im hn hl 3 rfl
theorem longer_by_ok {n : Nat} (im : List Int) (hn : n ≤ 10) (hl : im.length ≤ 100) : f_longer_by_one [eI im, .int n] = .ok (.lst true ((lng n im).map fun r => .lst true (r.map .int))) :=
  longer_at (cs := q_longer_by_one_1) (xe := x_longer_by_one_1) rfl rfl im hn hl 3 rfl
end K44
set_option Elab.async false
set_option linter.all false
set_option maxRecDepth 100000
namespace K44
open PySem L2 TI
abbrev Ent := List Int × Int × Int
abbrev eE (e : Ent) : D := .tup [.tup (e.1.map .int), .int e.2.1, .int e.2.2]
abbrev eP (P : List Ent) : D := .lst false (P.map eE)
@[simp] theorem isFs_eE (P : List Ent) : isFs (P.map eE) = true := isFs_map _ _ fun x _ => by simp
theorem asked_ok {one other : List (List Int)} (h1 : one.length ≤ 6) (h2 : other.length ≤ 6) : f_asked_alike [eT one, eT other] = .ok .non := by
  unfold f_asked_alike c_asked_alike
  rw [evDef_fin]
  have c : cst "MOST_ALIKE" = some (.int 6) := if_pos rfl
  have e1 : ¬ (6 : Int) < one.length := by omega
  have e2 : ¬ (6 : Int) < other.length := by omega
  simp [c, e1, e2]
def put (ks : List (List Int)) (k : List Int) : List (List Int) := if hasK ks k = true then ks else ks ++ [k]
def keyStep (n : Nat) (one other : List (List Int)) (ks : List (List Int)) (e : Ent) : List (List Int) := if brk n one other e.1 e.2.1 e.2.2 = true then put ks e.1 else ks
def keys (n : Nat) (one other : List (List Int)) (P : List Ent) : List (List Int) := P.foldl (keyStep n one other) []
def stepS (n : Nat) (S fd : List (List Int)) : List (List Int) := fd.flatMap fun im => (lng n im).filter fun l => !hasK S l
def walkS (n : Nat) (S : List (List Int)) : Nat → List (List Int)
  | 0 => [[]]
  | k + 1 => stepS n S (walkS n S k)
theorem lng_len (n : Nat) (im : List Int) : (lng n im).length ≤ n := by
  unfold lng
  exact Nat.le_trans (List.length_filterMap_le _ _) (by simp)
theorem lng_mem {n : Nat} {im l : List Int} (h : l ∈ lng n im) : ∃ c : Nat, c < n ∧ (c : Int) ∉ im ∧ l = im ++ [(c : Int)] := by
  unfold lng at h
  rw [List.mem_filterMap] at h
  obtain ⟨c, hc, h⟩ := h
  split at h
  · cases h
  · rename_i hn
    exact ⟨c, List.mem_range.mp hc, hn, (Option.some.inj h).symm⟩
theorem stepS_len {n : Nat} {S : List (List Int)} : ∀ fd : List (List Int), (stepS n S fd).length ≤ fd.length * n
  | [] => by simp [stepS]
  | im :: fd => by
    have ih := stepS_len (n := n) (S := S) fd
    unfold stepS at ih ⊢
    rw [List.flatMap_cons, List.length_append, List.length_cons, Nat.add_mul]
    have h1 := List.length_filter_le (fun l => !hasK S l) (lng n im)
    have h2 := lng_len n im
    omega
theorem walkS_ok (n : Nat) (S : List (List Int)) : ∀ k, (walkS n S k).length ≤ n ^ k ∧ ∀ l ∈ walkS n S k, l.length = k ∧ rng n l = true
  | 0 => ⟨by simp [walkS], fun l h => by
    have : l = [] := by simpa [walkS] using h
    subst this
    exact ⟨rfl, rng_iff.mpr ⟨List.nodup_nil, fun c hc => by cases hc⟩⟩⟩
  | k + 1 => by
    obtain ⟨h1, h2⟩ := walkS_ok n S k
    constructor
    · rw [Nat.pow_succ]
      exact Nat.le_trans (stepS_len _) (Nat.mul_le_mul_right n h1)
    · intro l h
      unfold walkS stepS at h
      rw [List.mem_flatMap] at h
      obtain ⟨im, him, hl⟩ := h
      obtain ⟨c, hc, hn, rfl⟩ := lng_mem (List.mem_filter.mp hl).1
      obtain ⟨h3, h4⟩ := h2 im him
      refine ⟨by simp [h3], ?_⟩
      rw [rng_iff] at h4 ⊢
      refine ⟨?_, fun x hx => ?_⟩
      · rw [List.nodup_append]
        refine ⟨h4.1, by simp, fun a ha b hb e => ?_⟩
        rw [List.mem_singleton.mp hb] at e
        rw [e] at ha
        exact hn ha
      · rcases List.mem_append.mp hx with hx | hx
        · exact h4.2 x hx
        · rw [List.mem_singleton.mp hx]
          omega
theorem pow_le {n k : Nat} (hn : n ≤ 6) (hk : k ≤ 6) : n ^ k ≤ 46656 :=
  Nat.le_trans (Nat.pow_le_pow_left hn k) (Nat.le_trans (Nat.pow_le_pow_right (by decide) hk) (by decide))
theorem keys_len {n : Nat} {one other : List (List Int)} (P : List Ent) : (keys n one other P).length ≤ P.length := by
  have : ∀ (P : List Ent) (ks : List (List Int)), (P.foldl (keyStep n one other) ks).length ≤ ks.length + P.length := by
    intro P
    induction P with
    | nil => intro ks; simp
    | cons e P ih =>
      intro ks
      rw [List.foldl_cons]
      have := ih (keyStep n one other ks e)
      have h2 : (keyStep n one other ks e).length ≤ ks.length + 1 := by
        unfold keyStep put
        split
        · split <;> simp
        · omega
      rw [List.length_cons]
      omega
  have := this P []
  simp at this
  exact this
abbrev tblS : Tbl := [("asked_alike", 2, f_asked_alike), ("breaks_there", 5, f_breaks_there), ("longer_by_one", 2, f_longer_by_one)]
theorem bind3 {i j k : Nat} {x y z : D} {env : TI.Env} : bindT (.many [i, j, k]) (.tup [x, y, z]) env = .ok (((env.set i (some x)).set j (some y)).set k (some z)) := rfl
theorem shuts_ok {n : Nat} {one other : List (List Int)} (h1 : Tab n one) (h2 : Tab n other) (hn : n ≤ 6) (P : List Ent) (hP : P.length ≤ 500000) (hE : ∀ e ∈ P, e.1.length ≤ 4000) :
    f_shuts [eT one, eT other, eP P] = .ok (.bl (decide ((walkS n (keys n one other P) n).length = 0))) := by
  unfold f_shuts c_shuts
  rw [evDef_fin]
  have l1 : lim = 1000000 := rfl
  -- the dict of the beginnings that break
  obtain ⟨a1, a2⟩ := forL_foldM (b := evSs (tfn tblS) cst 2000 b_shuts_1) (ct := .many [6, 7, 8]) (kl := [6, 7, 8]) eE (fun ks => [some (eT one), some (eT other), some (eP P), some (.dT true ks), none, none, none, none, none, none, none]) (keyStep n one other) (fun i ks => ks.length ≤ i)
    (xs := P) (s0 := []) (i0 := 0) (fun i ks e hk he _ hi => by
      have hb := breaks_there_ok h1 h2 e.1 e.2.1 e.2.2 (hE e he)
      unfold b_shuts_1 keyStep
      by_cases k : brk n one other e.1 e.2.1 e.2.2 = true
      · simp [stepL, bind3, hb, k, r_dput, TI.isTrue, biD, asKT, intsD_map, wipeE]
        rw [gd_d (by simp at hi; omega)]
        simp [put]
        split
        · omega
        · rw [List.length_append]
          simp
          omega
      · simp [stepL, bind3, hb, k, wipeE]
        omega) (by simp)
  -- one size more
  have inner : ∀ (k : Nat) (kd : D) (S fd : List (List Int)), fd.length ≤ 46656 → (∀ l ∈ fd, l.length ≤ 6) → 
      forL (evSs (tfn tblS) cst 2000 b_shuts_2) (.one 6) [6] (fd.map eI) [some (eT one), some (eT other), some (eP P), some (.dT true S), some (eT fd), some kd, none, none, none, some (.lst true ([].map eI)), none] =
        .nx [some (eT one), some (eT other), some (eP P), some (.dT true S), some (eT fd), some kd, none, none, none, some (.lst true ((stepS n S fd).map eI)), none] := by
    intro k kd S fd hfd hl
    have e0 : stepS n S fd = fd.foldl (fun st im => st ++ (lng n im).filter fun l => !hasK S l) [] := by
      unfold stepS
      have : ∀ (fd st : List (List Int)), fd.foldl (fun st im => st ++ (lng n im).filter fun l => !hasK S l) st = st ++ fd.flatMap fun im => (lng n im).filter fun l => !hasK S l := by
        intro fd
        induction fd with
        | nil => intro st; simp
        | cons im fd ih => intro st; rw [List.foldl_cons, ih, List.flatMap_cons, List.append_assoc]
      rw [this]; simp
    rw [e0]
    refine (forL_foldM (b := evSs (tfn tblS) cst 2000 b_shuts_2) (ct := .one 6) (kl := [6]) eI (fun st => [some (eT one), some (eT other), some (eP P), some (.dT true S), some (eT fd), some kd, none, none, none, some (.lst true (st.map eI)), none]) (fun st im => st ++ (lng n im).filter fun l => !hasK S l) (fun i st => st.length ≤ i * 6)
      (xs := fd) (s0 := []) (i0 := 0) (fun i st im hst him _ hi => ?_) (by simp)).1
    have hlb := longer_by_ok (n := n) im (by omega) (by have := hl im him; omega)
    have hlen := List.length_filter_le (fun l => !hasK S l) (lng n im)
    have hlen2 := lng_len n im
    have cp : compL (compB (tfn tblS) cst .f (.one 10) true q_shuts_1 x_shuts_1 [some (eT one), some (eT other), some (eP P), some (.dT true S), some (eT fd), some kd, some (eI im), none, none, some (.lst true (st.map eI)), none]) ((lng n im).map eI) = .ok (((lng n im).filter fun l => !hasK S l).map eI) := by
      have : ∀ xs : List (List Int), compL (compB (tfn tblS) cst .f (.one 10) true q_shuts_1 x_shuts_1 [some (eT one), some (eT other), some (eP P), some (.dT true S), some (eT fd), some kd, some (eI im), none, none, some (.lst true (st.map eI)), none]) (xs.map eI) = .ok ((xs.filter fun l => !hasK S l).map eI) := by
        intro xs
        induction xs with
        | nil => rfl
        | cons l xs ih =>
          rw [List.map_cons, compL, ih]
          have : compB (tfn tblS) cst .f (.one 10) true q_shuts_1 x_shuts_1 [some (eT one), some (eT other), some (eP P), some (.dT true S), some (eT fd), some kd, some (eI im), none, none, some (.lst true (st.map eI)), none] (eI l) = .ok (if hasK S l = true then none else some (eI l)) := by
            unfold compB q_shuts_1 x_shuts_1
            by_cases k : hasK S l = true
            · simp [slotsT, wipeE, biD, dinD, intsD_map, k]
            · simp [slotsT, wipeE, biD, dinD, intsD_map, k]
          rw [this]
          by_cases k : hasK S l = true
          · simp [k]
          · simp [k]
      exact this _
    unfold b_shuts_2
    simp [stepL, r_ext, hlb, h1.1, cp]
    rw [compR_ok (by simp; omega)]
    simp [asLst]
    rw [gd_d (by simp at hi; omega)]
    simp [wipeE]
    omega
  obtain ⟨b1, b2⟩ := forL_foldM (b := evSs (tfn tblS) cst 2000 b_shuts_3) (ct := .one 5) (kl := [5, 6, 9]) (fun i : Nat => .int (0 + (i : Int))) (fun k : Nat => [some (eT one), some (eT other), some (eP P), some (.dT true (keys n one other P)), some (eT (walkS n (keys n one other P) k)), none, none, none, none, none, none]) (fun k _ => k + 1) (fun i k => k = i)
    (xs := List.range n) (s0 := 0) (i0 := 0) (fun i k x hk hx _ hi => by
      subst hk
      simp at hi
      obtain ⟨w1, w2⟩ := walkS_ok n (keys n one other P) k
      have := pow_le hn (show k ≤ 6 by omega)
      have inn := inner k (.int (x : Int)) (keys n one other P) (walkS n (keys n one other P) k) (by omega) (fun l hl => by have := (w2 l hl).1; omega)
      unfold b_shuts_3
      simp only [List.map_nil] at inn
      simp [stepL, gd_d, inn, wipeE]
      rfl) rfl
  have hfold : (List.range n).foldl (fun k _ => k + 1) 0 = n := by
    simp
  have hrng : rngD 0 n = (List.range n).map fun i : Nat => .int (0 + (i : Int)) := rfl
  rw [hfold] at b1
  have a1' : forL (evSs (tfn tblS) cst 2000 b_shuts_1) (.many [6, 7, 8]) [6, 7, 8] (P.map eE) [some (eT one), some (eT other), some (eP P), some (.dT true []), none, none, none, none, none, none, none] = .nx [some (eT one), some (eT other), some (eP P), some (.dT true (keys n one other P)), none, none, none, none, none, none, none] := a1
  have b1' : forL (evSs (tfn tblS) cst 2000 b_shuts_3) (.one 5) [5, 6, 9] (rngD 0 n) [some (eT one), some (eT other), some (eP P), some (.dT true (keys n one other P)), some (.lst false [.lst false []]), none, none, none, none, none, none] = .nx [some (eT one), some (eT other), some (eP P), some (.dT true (keys n one other P)), some (eT (walkS n (keys n one other P) n)), none, none, none, none, none, none] := by
    rw [hrng]; exact b1
  simp [asked_ok (one := one) (other := other) (by rw [h1.1]; omega) (by rw [h2.1]; omega), h1.1, h2.1, gd_d]
  rw [a1']
  simp [i_rng1, h1.1, gd_d, l1]
  rw [gd_d (by omega)]
  simp
  rw [b1']
  simp
end K44
set_option Elab.async false
set_option linter.all false
set_option maxRecDepth 100000
namespace K44
open PySem L2 TI
abbrev tblL : Tbl := [("_law_breaks", 5, f_breaks), ("_law_longer", 2, f_longer)]
theorem put_eq {ks : List (List Int)} {k : List Int} : put ks k = if hasK ks k = true then ks else ks ++ [k] := rfl
theorem shut_ok {n : Nat} {one other : List (List Int)} (h1 : Tab n one) (h2 : Tab n other) (hn : n ≤ 6) (P : List Ent) (hP : P.length ≤ 500000) :
    f_shut [eT one, eT other, eP P] = .ok (.bl (decide ((walkS n (keys n one other P) n).length = 0))) := by
  unfold f_shut c_shut
  rw [evDef_fin]
  have l1 : lim = 1000000 := rfl
  obtain ⟨a1, a2⟩ := forL_foldM (b := evSs (tfn tblL) cst 2000 b_shut_1) (ct := .many [6, 7, 8]) (kl := [6, 7, 8]) eE (fun ks => [some (eT one), some (eT other), some (eP P), some (.dT true ks), none, none, none, none, none, none, none]) (keyStep n one other) (fun i ks => ks.length ≤ i)
    (xs := P) (s0 := []) (i0 := 0) (fun i ks e hk he _ hi => by
      have hb := breaks_ok h1 h2 e.1 e.2.1 e.2.2
      unfold b_shut_1 keyStep
      by_cases k : brk n one other e.1 e.2.1 e.2.2 = true
      · simp [stepL, bind3, hb, k, r_dput, TI.isTrue, biD, asKT, intsD_map, wipeE]
        rw [gd_d (by simp at hi; omega)]
        simp [put]
        split
        · omega
        · rw [List.length_append]
          simp
          omega
      · simp [stepL, bind3, hb, k, wipeE]
        omega) (by simp)
  have inner2 : ∀ (kd : D) (S fd : List (List Int)) (im : List Int) (xs st : List (List Int)), st.length + xs.length ≤ 500000 →
      forL (evSs (tfn tblL) cst 2000 b_shut_2) (.one 10) [10] (xs.map eI) [some (eT one), some (eT other), some (eP P), some (.dT true S), some (eT fd), some kd, some (eI im), none, none, some (.lst true (st.map eI)), none] =
        .nx [some (eT one), some (eT other), some (eP P), some (.dT true S), some (eT fd), some kd, some (eI im), none, none, some (.lst true ((st ++ xs.filter fun l => !hasK S l).map eI)), none] := by
    intro kd S fd im xs
    induction xs with
    | nil => intro st _; simp [forL]
    | cons l xs ih =>
      intro st hst
      rw [List.length_cons] at hst
      rw [List.map_cons, forL_cons]
      by_cases k : hasK S l = true
      · have e : stepL (evSs (tfn tblL) cst 2000 b_shut_2) (.one 10) [10] [some (eT one), some (eT other), some (eP P), some (.dT true S), some (eT fd), some kd, some (eI im), none, none, some (.lst true (st.map eI)), none] (eI l) = .nx [some (eT one), some (eT other), some (eP P), some (.dT true S), some (eT fd), some kd, some (eI im), none, none, some (.lst true (st.map eI)), none] := by
          unfold b_shut_2
          simp [stepL, biD, dinD, intsD_map, k, wipeE]
        rw [e, nx_thn, ih st (by omega)]
        simp [k]
      · have e : stepL (evSs (tfn tblL) cst 2000 b_shut_2) (.one 10) [10] [some (eT one), some (eT other), some (eP P), some (.dT true S), some (eT fd), some kd, some (eI im), none, none, some (.lst true (st.map eI)), none] (eI l) = .nx [some (eT one), some (eT other), some (eP P), some (.dT true S), some (eT fd), some kd, some (eI im), none, none, some (.lst true ((st ++ [l]).map eI)), none] := by
          unfold b_shut_2
          simp [stepL, biD, dinD, intsD_map, k, wipeE, r_app]
          rw [gd_d (by omega)]
          simp
        rw [e, nx_thn, ih (st ++ [l]) (by simp; omega)]
        simp [k]
  have flat : ∀ (S fd st : List (List Int)), fd.foldl (fun st im => st ++ (lng n im).filter fun l => !hasK S l) st = st ++ fd.flatMap fun im => (lng n im).filter fun l => !hasK S l := by
    intro S fd
    induction fd with
    | nil => intro st; simp
    | cons im fd ih => intro st; rw [List.foldl_cons, ih, List.flatMap_cons, List.append_assoc]
  have inner : ∀ (kd : D) (S fd : List (List Int)), fd.length ≤ 46656 → (∀ l ∈ fd, l.length ≤ 6) → 
      forL (evSs (tfn tblL) cst 2000 b_shut_3) (.one 6) [6, 10] (fd.map eI) [some (eT one), some (eT other), some (eP P), some (.dT true S), some (eT fd), some kd, none, none, none, some (.lst true ([].map eI)), none] =
        .nx [some (eT one), some (eT other), some (eP P), some (.dT true S), some (eT fd), some kd, none, none, none, some (.lst true ((stepS n S fd).map eI)), none] := by
    intro kd S fd hfd hl
    have e0 : stepS n S fd = fd.foldl (fun st im => st ++ (lng n im).filter fun l => !hasK S l) [] := by
      rw [flat]; rfl
    rw [e0]
    refine (forL_foldM (b := evSs (tfn tblL) cst 2000 b_shut_3) (ct := .one 6) (kl := [6, 10]) eI (fun st => [some (eT one), some (eT other), some (eP P), some (.dT true S), some (eT fd), some kd, none, none, none, some (.lst true (st.map eI)), none]) (fun st im => st ++ (lng n im).filter fun l => !hasK S l) (fun i st => st.length ≤ i * 6)
      (xs := fd) (s0 := []) (i0 := 0) (fun i st im hst him _ hi => ?_) (by simp)).1
    have hlb := longer_ok (n := n) im (by omega) (by have := hl im him; omega)
    have hlen := List.length_filter_le (fun l => !hasK S l) (lng n im)
    have hlen2 := lng_len n im
    have inn := inner2 kd S fd im (lng n im) st (by simp at hi; omega)
    unfold b_shut_3
    simp [stepL, hlb, h1.1, inn, wipeE]
    omega
  obtain ⟨b1, b2⟩ := forL_foldM (b := evSs (tfn tblL) cst 2000 b_shut_4) (ct := .one 5) (kl := [5, 6, 9, 10]) (fun i : Nat => .int (0 + (i : Int))) (fun k : Nat => [some (eT one), some (eT other), some (eP P), some (.dT true (keys n one other P)), some (eT (walkS n (keys n one other P) k)), none, none, none, none, none, none]) (fun k _ => k + 1) (fun i k => k = i)
    (xs := List.range n) (s0 := 0) (i0 := 0) (fun i k x hk hx _ hi => by
      subst hk
      simp at hi
      obtain ⟨w1, w2⟩ := walkS_ok n (keys n one other P) k
      have := pow_le hn (show k ≤ 6 by omega)
      have inn := inner (.int (x : Int)) (keys n one other P) (walkS n (keys n one other P) k) (by omega) (fun l hl => by have := (w2 l hl).1; omega)
      unfold b_shut_4
      simp only [List.map_nil] at inn
      simp [stepL, gd_d, inn, wipeE]
      rfl) rfl
  have hfold : (List.range n).foldl (fun k _ => k + 1) 0 = n := by
    simp
  have hrng : rngD 0 n = (List.range n).map fun i : Nat => .int (0 + (i : Int)) := rfl
  rw [hfold] at b1
  have a1' : forL (evSs (tfn tblL) cst 2000 b_shut_1) (.many [6, 7, 8]) [6, 7, 8] (P.map eE) [some (eT one), some (eT other), some (eP P), some (.dT true []), none, none, none, none, none, none, none] = .nx [some (eT one), some (eT other), some (eP P), some (.dT true (keys n one other P)), none, none, none, none, none, none, none] := a1
  have b1' : forL (evSs (tfn tblL) cst 2000 b_shut_4) (.one 5) [5, 6, 9, 10] (rngD 0 n) [some (eT one), some (eT other), some (eP P), some (.dT true (keys n one other P)), some (.lst false [.lst false []]), none, none, none, none, none, none] = .nx [some (eT one), some (eT other), some (eP P), some (.dT true (keys n one other P)), some (eT (walkS n (keys n one other P) n)), none, none, none, none, none, none] := by
    rw [hrng]; exact b1
  simp [h1.1, h2.1, gd_d]
  rw [a1']
  simp [i_rng1, h1.1, gd_d, l1]
  rw [gd_d (by omega)]
  simp
  rw [b1']
  simp
/-- tables of unlike sizes -/
theorem shut_ne {one other : List (List Int)} {P : List Ent} (h : one.length ≠ other.length) : f_shut [eT one, eT other, eP P] = .ok (.bl true) := by
  unfold f_shut c_shut
  rw [evDef_fin]
  have h' : ¬ ((one.length : Int) = other.length) := by omega
  simp [h']
theorem shuts_ne {one other : List (List Int)} {P : List Ent} (h1 : one.length ≤ 6) (h2 : other.length ≤ 6) (h : one.length ≠ other.length) : f_shuts [eT one, eT other, eP P] = .ok (.bl true) := by
  unfold f_shuts c_shuts
  rw [evDef_fin]
  have h' : ¬ ((one.length : Int) = other.length) := by omega
  simp [asked_ok h1 h2, h']
end K44
set_option Elab.async false
set_option linter.all false
set_option maxRecDepth 100000
namespace K44
open PySem L2 TI
def std (one other : List (List Int)) (im : List Int) : Bool := (List.range im.length).all fun a => (List.range im.length).all fun b => !hit one other im a b
def fB (one other : List (List Int)) (im : List Int) (a : Nat) (x : D) : Option D := match x with
  | .int b => if hit one other im a b = true then some (.bl false) else none
  | _ => none
def fA (one other : List (List Int)) (im : List Int) (x : D) : Option D := match x with
  | .int a => if ((List.range im.length).all fun b => !hit one other im a b) = true then none else some (.bl false)
  | _ => none
theorem fA_int {one other : List (List Int)} {im : List Int} {a : Int} : fA one other im (.int a) = if ((List.range im.length).all fun b => !hit one other im a b) = true then none else some (.bl false) := rfl
theorem stands_ok {n : Nat} {one other : List (List Int)} (h1 : Tab n one) (h2 : Tab n other) (hn6 : n ≤ 6) {im : List Int} (hr : rng n im = true) : f_stands [eT one, eT other, eI im] = .ok (.bl (std one other im)) := by
  unfold f_stands c_stands
  rw [evDef_fin]
  obtain ⟨hn, hin⟩ := rng_iff.mp hr
  have hl := pig n im hn hin
  have g0 : gd (decide (im.length < 4611686018427387904)) = .ok () := gd_d (by omega)
  have inner : ∀ (a : Nat), a < im.length → ∀ xs : List D, (∀ x ∈ xs, ∃ b : Nat, b < im.length ∧ x = .int (0 + (b : Int))) →
      (xs.findSome? (fB one other im a) = none → forL (evSs (tfn []) cst 2000 b_stands_1) (.one 5) [5, 6] xs [some (eT one), some (eT other), some (eI im), some (.int im.length), some (.int a), none, none] = .nx [some (eT one), some (eT other), some (eI im), some (.int im.length), some (.int a), none, none]) ∧
      ∀ d, xs.findSome? (fB one other im a) = some d → ∃ e, forL (evSs (tfn []) cst 2000 b_stands_1) (.one 5) [5, 6] xs [some (eT one), some (eT other), some (eI im), some (.int im.length), some (.int a), none, none] = .rt d e := by
    intro a ha xs hxs
    refine forL_find (fB one other im a) fun x hx => ?_
    obtain ⟨b, hb, rfl⟩ := hxs x hx
    rw [Int.zero_add]
    have ha' : 0 ≤ (a : Int) ∧ (a : Int) < n := by omega
    have hb' : 0 ≤ (b : Int) ∧ (b : Int) < n := by omega
    obtain ⟨c1, c2, c3⟩ := cel_ok h1 ha' hb'
    have q1 : ixD (eT one) (.int a) = .ok (eI (row one a)) := ix_rowT ha'.1 (by rw [h1.1]; exact ha'.2)
    have q2 : ixD (eI (row one a)) (.int b) = .ok (.int (cel one a b)) := ix_nth hb'.1 (by rw [c1]; exact hb'.2)
    have q3 : ixD (eI im) (.int a) = .ok (.int (nth im a)) := ix_nth ha'.1 (by omega)
    have q4 : ixD (eI im) (.int b) = .ok (.int (nth im b)) := ix_nth hb'.1 (by omega)
    obtain ⟨m1, m2⟩ := hin _ (nth_mem (r := im) ha'.1 (by omega))
    obtain ⟨m3, m4⟩ := hin _ (nth_mem (r := im) hb'.1 (by omega))
    have q5 : ixD (eT other) (.int (nth im a)) = .ok (eI (row other (nth im a))) := ix_rowT m1 (by rw [h2.1]; exact m2)
    obtain ⟨d1, d2, d3⟩ := cel_ok h2 ⟨m1, m2⟩ ⟨m3, m4⟩
    have q6 : ixD (eI (row other (nth im a))) (.int (nth im b)) = .ok (.int (cel other (nth im a) (nth im b))) := ix_nth m3 (by rw [d1]; exact m4)
    unfold b_stands_1 fB
    by_cases hm : cel one a b < im.length
    · have q7 : ixD (eI im) (.int (cel one a b)) = .ok (.int (nth im (cel one a b))) := ix_nth c2 hm
      by_cases he : cel other (nth im a) (nth im b) = nth im (cel one a b)
      · have hh : hit one other im a b = false := by unfold hit; simp [he]
        simp [stepL, q1, q2, q3, q4, q5, q6, q7, hm, he, hh, wipeE]
      · have hh : hit one other im a b = true := by unfold hit; simp [hm, he]
        simp [stepL, q1, q2, q3, q4, q5, q6, q7, hm, he, hh]
    · have hh : hit one other im a b = false := by unfold hit; simp [hm]
      simp [stepL, q1, q2, hm, hh, wipeE]
  have rg : ∀ x ∈ rngD 0 im.length, ∃ b : Nat, b < im.length ∧ x = .int (0 + (b : Int)) := fun x hx => by
    obtain ⟨i, hi⟩ := List.mem_iff_getElem?.mp hx
    obtain ⟨h, rfl⟩ := rngD_get hi
    exact ⟨i, h, rfl⟩
  have fb : ∀ a : Nat, (rngD 0 im.length).findSome? (fB one other im a) = if ((List.range im.length).all fun b => !hit one other im a b) = true then none else some (.bl false) := by
    intro a
    by_cases k : ((List.range im.length).all fun b => !hit one other im a b) = true
    · rw [if_pos k, List.findSome?_eq_none_iff]
      intro x hx
      obtain ⟨b, hb, rfl⟩ := rg x hx
      rw [List.all_eq_true] at k
      have := k b (List.mem_range.mpr hb)
      unfold fB
      rw [Int.zero_add]
      simp at this
      simp [this]
    · rw [if_neg k]
      cases hf : (rngD 0 im.length).findSome? (fB one other im a) with
      | none =>
        exfalso
        apply k
        rw [List.all_eq_true]
        intro b hb
        rw [List.findSome?_eq_none_iff] at hf
        have := hf (.int (0 + (b : Int))) (by unfold rngD; exact List.mem_map_of_mem hb)
        unfold fB at this
        rw [Int.zero_add] at this
        by_cases z : hit one other im a b = true
        · simp [z] at this
        · simp [z]
      | some d =>
        obtain ⟨x, hx, hd⟩ := List.exists_of_findSome?_eq_some hf
        obtain ⟨b, hb, rfl⟩ := rg x hx
        unfold fB at hd
        simp at hd
        rw [← hd.2]
  obtain ⟨l1, l2⟩ := forL_find (b := evSs (tfn []) cst 2000 b_stands_2) (ct := .one 4) (kl := [4, 5, 6]) (E := [some (eT one), some (eT other), some (eI im), some (.int im.length), none, none, none]) (fA one other im) (xs := rngD 0 im.length) (fun x hx => by
    obtain ⟨a, ha, rfl⟩ := rg x hx
    obtain ⟨i1, i2⟩ := inner a ha (rngD 0 im.length) rg
    rw [fb a] at i1 i2
    rw [Int.zero_add]
    unfold b_stands_2
    rw [fA_int]
    by_cases k : ((List.range im.length).all fun b => !hit one other im a b) = true
    · rw [if_pos k] at i1
      have i1 := i1 rfl
      rw [if_pos k]
      refine ⟨fun _ => ?_, fun d hd => by cases hd⟩
      simp [stepL, i_rng1, g0, i1, wipeE]
    · rw [if_neg k] at i2
      obtain ⟨e, i2⟩ := i2 _ rfl
      rw [if_neg k]
      refine ⟨fun h => (by cases h), fun d hd => ?_⟩
      cases hd
      simp [stepL, i_rng1, g0, i2])
  by_cases hs : std one other im = true
  · have f0 : (rngD 0 im.length).findSome? (fA one other im) = none := by
      rw [List.findSome?_eq_none_iff]
      intro x hx
      obtain ⟨a, ha, rfl⟩ := rg x hx
      unfold std at hs
      rw [List.all_eq_true] at hs
      have := hs a (List.mem_range.mpr ha)
      rw [Int.zero_add, fA_int, if_pos this]
    have l1 := l1 f0
    rw [hs]
    simp [i_rng1, g0, l1]
  · have f0 : (rngD 0 im.length).findSome? (fA one other im) = some (.bl false) := by
      cases hf : (rngD 0 im.length).findSome? (fA one other im) with
      | none =>
        exfalso
        apply hs
        unfold std
        rw [List.all_eq_true]
        intro a ha
        rw [List.findSome?_eq_none_iff] at hf
        have := hf (.int (0 + (a : Int))) (by unfold rngD; exact List.mem_map_of_mem ha)
        rw [Int.zero_add, fA_int] at this
        split at this
        · assumption
        · cases this
      | some d =>
        obtain ⟨x, hx, hd⟩ := List.exists_of_findSome?_eq_some hf
        obtain ⟨a, ha, rfl⟩ := rg x hx
        rw [Int.zero_add, fA_int] at hd
        split at hd
        · cases hd
        · exact hd.symm
    obtain ⟨e, l2⟩ := l2 _ f0
    have hs2 : std one other im = false := by simpa using hs
    rw [hs2]
    simp [i_rng1, g0, l2]
end K44
set_option Elab.async false
set_option linter.all false
set_option maxRecDepth 100000
namespace K44
open PySem L2 TI
def walkE (n : Nat) (one other : List (List Int)) : Nat → List (List Int)
  | 0 => [[]]
  | k + 1 => (walkE n one other k).flatMap fun im => (lng n im).filter (std one other)
theorem lng_rng {n : Nat} {im l : List Int} (h : rng n im = true) (hl : l ∈ lng n im) : rng n l = true ∧ l.length = im.length + 1 := by
  obtain ⟨c, hc, hn, rfl⟩ := lng_mem hl
  rw [rng_iff] at h
  refine ⟨rng_iff.mpr ⟨?_, fun x hx => ?_⟩, by simp⟩
  · rw [List.nodup_append]
    refine ⟨h.1, by simp, fun a ha b hb e => ?_⟩
    rw [List.mem_singleton.mp hb] at e
    rw [e] at ha
    exact hn ha
  · rcases List.mem_append.mp hx with hx | hx
    · exact h.2 x hx
    · rw [List.mem_singleton.mp hx]
      omega
theorem walkE_ok (n : Nat) (one other : List (List Int)) : ∀ k, (walkE n one other k).length ≤ n ^ k ∧ ∀ l ∈ walkE n one other k, l.length = k ∧ rng n l = true
  | 0 => ⟨by simp [walkE], fun l h => by
    have : l = [] := by simpa [walkE] using h
    subst this
    exact ⟨rfl, rng_iff.mpr ⟨List.nodup_nil, fun c hc => by cases hc⟩⟩⟩
  | k + 1 => by
    obtain ⟨h1, h2⟩ := walkE_ok n one other k
    constructor
    · rw [Nat.pow_succ]
      refine Nat.le_trans ?_ (Nat.mul_le_mul_right n h1)
      have : ∀ fd : List (List Int), (fd.flatMap fun im => (lng n im).filter (std one other)).length ≤ fd.length * n := by
        intro fd
        induction fd with
        | nil => simp
        | cons im fd ih =>
          rw [List.flatMap_cons, List.length_append, List.length_cons, Nat.add_mul]
          have h1 := List.length_filter_le (std one other) (lng n im)
          have h2 := lng_len n im
          omega
      exact this _
    · intro l h
      unfold walkE at h
      rw [List.mem_flatMap] at h
      obtain ⟨im, him, hl⟩ := h
      obtain ⟨h3, h4⟩ := h2 im him
      obtain ⟨r1, r2⟩ := lng_rng h4 (List.mem_filter.mp hl).1
      exact ⟨by omega, r1⟩
abbrev tblE : Tbl := [("_law_longer", 2, f_longer), ("_law_stands", 3, f_stands)]
theorem every_ok {n : Nat} {one other : List (List Int)} (h1 : Tab n one) (h2 : Tab n other) (hn : n ≤ 6) : f_every [eT one, eT other] = .ok (eT (walkE n one other n)) := by
  unfold f_every c_every
  rw [evDef_fin]
  have l1 : lim = 1000000 := rfl
  have in1 : ∀ (kd : D) (fd : List (List Int)) (im : List Int) (xs st : List (List Int)), (∀ l ∈ xs, rng n l = true) → st.length + xs.length ≤ 500000 →
      forL (evSs (tfn tblE) cst 2000 b_every_1) (.one 6) [6] (xs.map eI) [some (eT one), some (eT other), some (eT fd), some kd, some (.lst true (st.map eI)), some (eI im), none] =
        .nx [some (eT one), some (eT other), some (eT fd), some kd, some (.lst true ((st ++ xs.filter (std one other)).map eI)), some (eI im), none] := by
    intro kd fd im xs
    induction xs with
    | nil => intro st _ _; simp [forL]
    | cons l xs ih =>
      intro st hr hst
      rw [List.length_cons] at hst
      have hs := stands_ok h1 h2 hn (hr l (by simp))
      rw [List.map_cons, forL_cons]
      by_cases k : std one other l = true
      · have e : stepL (evSs (tfn tblE) cst 2000 b_every_1) (.one 6) [6] [some (eT one), some (eT other), some (eT fd), some kd, some (.lst true (st.map eI)), some (eI im), none] (eI l) = .nx [some (eT one), some (eT other), some (eT fd), some kd, some (.lst true ((st ++ [l]).map eI)), some (eI im), none] := by
          unfold b_every_1
          simp [stepL, hs, k, wipeE, r_app]
          rw [gd_d (by omega)]
          simp
        rw [e, nx_thn, ih (st ++ [l]) (fun x hx => hr x (by simp [hx])) (by simp; omega)]
        simp [k]
      · have e : stepL (evSs (tfn tblE) cst 2000 b_every_1) (.one 6) [6] [some (eT one), some (eT other), some (eT fd), some kd, some (.lst true (st.map eI)), some (eI im), none] (eI l) = .nx [some (eT one), some (eT other), some (eT fd), some kd, some (.lst true (st.map eI)), some (eI im), none] := by
          unfold b_every_1
          simp [stepL, hs, k, wipeE]
        rw [e, nx_thn, ih st (fun x hx => hr x (by simp [hx])) (by omega)]
        simp [k]
  have in2 : ∀ (kd : D) (fd : List (List Int)) (ys st : List (List Int)), (∀ l ∈ ys, rng n l = true) → st.length + ys.length * n ≤ 400000 →
      forL (evSs (tfn tblE) cst 2000 b_every_2) (.one 5) [5, 6] (ys.map eI) [some (eT one), some (eT other), some (eT fd), some kd, some (.lst true (st.map eI)), none, none] =
        .nx [some (eT one), some (eT other), some (eT fd), some kd, some (.lst true ((st ++ ys.flatMap fun im => (lng n im).filter (std one other)).map eI)), none, none] := by
    intro kd fd ys
    induction ys with
    | nil => intro st _ _; simp [forL]
    | cons im ys ih =>
      intro st hr hst
      rw [List.length_cons, Nat.add_mul, Nat.one_mul] at hst
      have hri := hr im (by simp)
      have hll := lng_len n im
      have hpl := pig n im (rng_iff.mp hri).1 (rng_iff.mp hri).2
      have hfl := List.length_filter_le (std one other) (lng n im)
      have hlb := longer_ok (n := n) im (by omega) (by omega)
      have hi := in1 kd fd im (lng n im) st (fun l hl => (lng_rng hri hl).1) (by omega)
      have e : stepL (evSs (tfn tblE) cst 2000 b_every_2) (.one 5) [5, 6] [some (eT one), some (eT other), some (eT fd), some kd, some (.lst true (st.map eI)), none, none] (eI im) =
          .nx [some (eT one), some (eT other), some (eT fd), some kd, some (.lst true ((st ++ (lng n im).filter (std one other)).map eI)), none, none] := by
        unfold b_every_2
        simp [stepL, hlb, h1.1, hi, wipeE]
      rw [List.map_cons, forL_cons, e, nx_thn, ih _ (fun l hl => hr l (by simp [hl])) (by rw [List.length_append]; omega)]
      simp
  obtain ⟨b1, b2⟩ := forL_foldM (b := evSs (tfn tblE) cst 2000 b_every_3) (ct := .one 3) (kl := [3, 4, 5, 6]) (fun i : Nat => .int (0 + (i : Int))) (fun k : Nat => [some (eT one), some (eT other), some (eT (walkE n one other k)), none, none, none, none]) (fun k _ => k + 1) (fun i k => k = i)
    (xs := List.range n) (s0 := 0) (i0 := 0) (fun i k x hk hx _ hi => by
      subst hk
      simp at hi
      obtain ⟨w1, w2⟩ := walkE_ok n one other k
      have := pow_le hn (show k ≤ 6 by omega)
      have := Nat.mul_le_mul_left (walkE n one other k).length hn
      have inn := in2 (.int (x : Int)) (walkE n one other k) (walkE n one other k) [] (fun l hl => (w2 l hl).2) (by simp; omega)
      unfold b_every_3
      simp only [List.map_nil, List.nil_append] at inn
      simp [stepL, gd_d, inn, wipeE]
      rfl) rfl
  have hfold : (List.range n).foldl (fun k _ => k + 1) 0 = n := by simp
  rw [hfold] at b1
  have b1' : forL (evSs (tfn tblE) cst 2000 b_every_3) (.one 3) [3, 4, 5, 6] (rngD 0 n) [some (eT one), some (eT other), some (.lst false [.lst false []]), none, none, none, none] = .nx [some (eT one), some (eT other), some (eT (walkE n one other n)), none, none, none, none] := b1
  simp [h1.1, h2.1, gd_d, l1, i_rng1]
  rw [gd_d (by omega)]
  simp
  rw [b1']
  simp
theorem every_ne {one other : List (List Int)} (h : one.length ≠ other.length) : f_every [eT one, eT other] = .ok (.lst true []) := by
  unfold f_every c_every
  rw [evDef_fin]
  have h' : ¬ ((one.length : Int) = other.length) := by omega
  simp [h', gd_d]
theorem copied_ok {n : Nat} {t : List (List Int)} (h : Tab n t) (hn : n ≤ 6) : f_copied [eT t] = .ok (.lst true (t.map fun r => .lst true (r.map .int))) := by
  unfold f_copied c_copied
  rw [evDef_fin]
  have cp : ∀ xs : List (List Int), compL (compB (tfn []) cst .o (.one 1) false (.val .non) x_copied_1 [some (eT t), none]) (xs.map eI) = .ok (xs.map fun r => .lst true (r.map .int)) := by
    intro xs
    induction xs with
    | nil => rfl
    | cons r rs ih =>
      rw [List.map_cons, compL, ih]
      unfold compB x_copied_1
      simp [wipeE, slotsT, biD]
  simp [cp]
  rw [compR_ok (by rw [List.length_map, h.1]; unfold lim; omega)]
  simp
/-! ### a beginning that breaks does not stand -/
theorem brk_std {n : Nat} {one other : List (List Int)} {im : List Int} {a b : Int} (h : brk n one other im a b = true) : std one other im = false := by
  unfold brk at h
  simp only [Bool.and_eq_true] at h
  obtain ⟨⟨h1, h2, h3⟩, h4⟩ := h
  simp only [inside, Bool.and_eq_true, decide_eq_true_eq] at h2 h3
  cases hs : std one other im with
  | false => rfl
  | true =>
    unfold std at hs
    rw [List.all_eq_true] at hs
    have := hs a.toNat (List.mem_range.mpr (by omega))
    rw [List.all_eq_true] at this
    have := this b.toNat (List.mem_range.mpr (by omega))
    rw [show ((a.toNat : Nat) : Int) = a by omega, show ((b.toNat : Nat) : Int) = b by omega, h4] at this
    cases this
theorem hasK_iff {ks : List (List Int)} {k : List Int} : hasK ks k = true ↔ k ∈ ks := by
  unfold hasK
  simp
theorem keys_brk {n : Nat} {one other : List (List Int)} (P : List Ent) : ∀ k ∈ keys n one other P, std one other k = false := by
  have : ∀ (P : List Ent) (ks : List (List Int)), (∀ k ∈ ks, std one other k = false) → ∀ k ∈ P.foldl (keyStep n one other) ks, std one other k = false := by
    intro P
    induction P with
    | nil => intro ks h; exact h
    | cons e P ih =>
      intro ks h
      rw [List.foldl_cons]
      refine ih _ fun k hk => ?_
      unfold keyStep at hk
      split at hk
      · rename_i hb
        unfold put at hk
        split at hk
        · exact h k hk
        · rcases List.mem_append.mp hk with hk | hk
          · exact h k hk
          · rw [List.mem_singleton.mp hk]
            exact brk_std hb
      · exact h k hk
  exact this P [] fun k h => by cases h
theorem walk_sub {n : Nat} {one other S : List (List Int)} (hS : ∀ k ∈ S, std one other k = false) : ∀ k, ∀ l ∈ walkE n one other k, l ∈ walkS n S k
  | 0, l, h => h
  | k + 1, l, h => by
    unfold walkE at h
    unfold walkS stepS
    rw [List.mem_flatMap] at h ⊢
    obtain ⟨im, him, hl⟩ := h
    obtain ⟨h1, h2⟩ := List.mem_filter.mp hl
    refine ⟨im, walk_sub hS k im him, List.mem_filter.mpr ⟨h1, ?_⟩⟩
    cases hk : hasK S l with
    | false => rfl
    | true =>
      have := hS l (hasK_iff.mp hk)
      rw [h2] at this
      cases this
theorem shut_every {n : Nat} {one other : List (List Int)} (P : List Ent) (h : (walkS n (keys n one other P) n).length = 0) : walkE n one other n = [] := by
  have h0 := List.length_eq_zero_iff.mp h
  cases he : walkE n one other n with
  | nil => rfl
  | cons l r =>
    have := walk_sub (keys_brk (n := n) P) n l (by rw [he]; simp)
    rw [h0] at this
    cases this
end K44
set_option Elab.async false
set_option linter.all false
set_option maxRecDepth 100000
namespace K44
open PySem L2 TI
def gB (one other : List (List Int)) (im : List Int) (a : Int) (x : D) : Option D := match x with
  | .int b => if hit one other im a b = true then some (.tup [.int a, .int b]) else none
  | _ => none
theorem gB_int {one other : List (List Int)} {im : List Int} {a b : Int} : gB one other im a (.int b) = if hit one other im a b = true then some (.tup [.int a, .int b]) else none := rfl
def gA (one other : List (List Int)) (im : List Int) (x : D) : Option D := match x with
  | .int a => (rngD 0 im.length).findSome? (gB one other im a)
  | _ => none
theorem gA_int {one other : List (List Int)} {im : List Int} {a : Int} : gA one other im (.int a) = (rngD 0 im.length).findSome? (gB one other im a) := rfl
theorem rg {n : Nat} {x : D} (hx : x ∈ rngD 0 n) : ∃ b : Nat, b < n ∧ x = .int (0 + (b : Int)) := by
  obtain ⟨i, hi⟩ := List.mem_iff_getElem?.mp hx
  obtain ⟨h, rfl⟩ := rngD_get hi
  exact ⟨i, h, rfl⟩
theorem breach_of_ok {n : Nat} {one other : List (List Int)} (h1 : Tab n one) (h2 : Tab n other) (hn6 : n ≤ 6) {im : List Int} (hr : rng n im = true) :
    ∃ r, f_breach_of [eT one, eT other, eI im] = .ok r ∧ ((std one other im = true ∧ r = .non) ∨ (std one other im = false ∧ ∃ a b : Int, r = .tup [.int a, .int b] ∧ brk n one other im a b = true)) := by
  unfold f_breach_of c_breach_of
  rw [evDef_fin]
  obtain ⟨hn, hin⟩ := rng_iff.mp hr
  have hl := pig n im hn hin
  have g0 : gd (decide (im.length < 4611686018427387904)) = .ok () := gd_d (by omega)
  have inner : ∀ (a : Nat), a < im.length →
      ((rngD 0 im.length).findSome? (gB one other im a) = none → forL (evSs (tfn []) cst 2000 b_breach_of_1) (.one 5) [5, 6] (rngD 0 im.length) [some (eT one), some (eT other), some (eI im), some (.int im.length), some (.int a), none, none] = .nx [some (eT one), some (eT other), some (eI im), some (.int im.length), some (.int a), none, none]) ∧
      ∀ d, (rngD 0 im.length).findSome? (gB one other im a) = some d → ∃ e, forL (evSs (tfn []) cst 2000 b_breach_of_1) (.one 5) [5, 6] (rngD 0 im.length) [some (eT one), some (eT other), some (eI im), some (.int im.length), some (.int a), none, none] = .rt d e := by
    intro a ha
    refine forL_find (gB one other im a) fun x hx => ?_
    obtain ⟨b, hb, rfl⟩ := rg hx
    rw [Int.zero_add, gB_int]
    have ha' : 0 ≤ (a : Int) ∧ (a : Int) < n := by omega
    have hb' : 0 ≤ (b : Int) ∧ (b : Int) < n := by omega
    obtain ⟨c1, c2, c3⟩ := cel_ok h1 ha' hb'
    have q1 : ixD (eT one) (.int a) = .ok (eI (row one a)) := ix_rowT ha'.1 (by rw [h1.1]; exact ha'.2)
    have q2 : ixD (eI (row one a)) (.int b) = .ok (.int (cel one a b)) := ix_nth hb'.1 (by rw [c1]; exact hb'.2)
    have q3 : ixD (eI im) (.int a) = .ok (.int (nth im a)) := ix_nth ha'.1 (by omega)
    have q4 : ixD (eI im) (.int b) = .ok (.int (nth im b)) := ix_nth hb'.1 (by omega)
    obtain ⟨m1, m2⟩ := hin _ (nth_mem (r := im) ha'.1 (by omega))
    obtain ⟨m3, m4⟩ := hin _ (nth_mem (r := im) hb'.1 (by omega))
    have q5 : ixD (eT other) (.int (nth im a)) = .ok (eI (row other (nth im a))) := ix_rowT m1 (by rw [h2.1]; exact m2)
    obtain ⟨d1, d2, d3⟩ := cel_ok h2 ⟨m1, m2⟩ ⟨m3, m4⟩
    have q6 : ixD (eI (row other (nth im a))) (.int (nth im b)) = .ok (.int (cel other (nth im a) (nth im b))) := ix_nth m3 (by rw [d1]; exact m4)
    unfold b_breach_of_1
    by_cases hm : cel one a b < im.length
    · have q7 : ixD (eI im) (.int (cel one a b)) = .ok (.int (nth im (cel one a b))) := ix_nth c2 hm
      by_cases he : cel other (nth im a) (nth im b) = nth im (cel one a b)
      · have hh : hit one other im a b = false := by unfold hit; simp [he]
        simp [stepL, q1, q2, q3, q4, q5, q6, q7, hm, he, hh, wipeE]
      · have hh : hit one other im a b = true := by unfold hit; simp [hm, he]
        simp [stepL, q1, q2, q3, q4, q5, q6, q7, hm, he, hh, gd_d, lim]
    · have hh : hit one other im a b = false := by unfold hit; simp [hm]
      simp [stepL, q1, q2, hm, hh, wipeE]
  obtain ⟨l1, l2⟩ := forL_find (b := evSs (tfn []) cst 2000 b_breach_of_2) (ct := .one 4) (kl := [4, 5, 6]) (E := [some (eT one), some (eT other), some (eI im), some (.int im.length), none, none, none]) (gA one other im) (xs := rngD 0 im.length) (fun x hx => by
    obtain ⟨a, ha, rfl⟩ := rg hx
    obtain ⟨i1, i2⟩ := inner a ha
    rw [Int.zero_add, gA_int]
    unfold b_breach_of_2
    refine ⟨fun h => ?_, fun d h => ?_⟩
    · have i1 := i1 h
      simp [stepL, i_rng1, g0, i1, wipeE]
    · obtain ⟨e, i2⟩ := i2 d h
      simp [stepL, i_rng1, g0, i2])
  cases hf : (rngD 0 im.length).findSome? (gA one other im) with
  | none =>
    have l1 := l1 hf
    refine ⟨.non, ?_, .inl ⟨?_, rfl⟩⟩
    · simp [i_rng1, g0, l1]
    · unfold std
      rw [List.all_eq_true]
      intro a ha
      rw [List.all_eq_true]
      intro b hb
      rw [List.findSome?_eq_none_iff] at hf
      have := hf (.int (0 + (a : Int))) (by unfold rngD; exact List.mem_map_of_mem ha)
      rw [Int.zero_add, gA_int, List.findSome?_eq_none_iff] at this
      have := this (.int (0 + (b : Int))) (by unfold rngD; exact List.mem_map_of_mem hb)
      rw [Int.zero_add, gB_int] at this
      by_cases z : hit one other im a b = true
      · rw [if_pos z] at this; cases this
      · simp [z]
  | some d =>
    obtain ⟨e, l2⟩ := l2 _ hf
    obtain ⟨x, hx, hd⟩ := List.exists_of_findSome?_eq_some hf
    obtain ⟨a, ha, rfl⟩ := rg hx
    rw [Int.zero_add, gA_int] at hd
    obtain ⟨y, hy, hd⟩ := List.exists_of_findSome?_eq_some hd
    obtain ⟨b, hb, rfl⟩ := rg hy
    rw [Int.zero_add, gB_int] at hd
    split at hd
    · rename_i hh
      cases hd
      have hk : brk n one other im a b = true := by
        unfold brk inside
        rw [hr, hh]
        simp
        omega
      exact ⟨_, by simp [i_rng1, g0, l2], .inr ⟨brk_std hk, a, b, rfl, hk⟩⟩
    · cases hd
end K44
set_option Elab.async false
set_option linter.all false
set_option maxRecDepth 100000
namespace K44
open PySem L2 TI
abbrev tblT : Tbl := [("longer_by_one", 2, f_longer_by_one), ("breach_of", 3, f_breach_of)]
/-- what holds of a paper that is being written -/
structure Pap (n : Nat) (one other : List (List Int)) (P P' : List Ent) (xs : List (List Int)) : Prop where
  sub : ∀ e ∈ P, e ∈ P'
  new : ∀ e ∈ P', e ∈ P ∨ brk n one other e.1 e.2.1 e.2.2 = true
  all : ∀ l ∈ xs, std one other l = false → ∃ e ∈ P', e.1 = l
theorem in1 {n : Nat} {one other : List (List Int)} (h1 : Tab n one) (h2 : Tab n other) (hn : n ≤ 6) (kd : D) (fd : List (List Int)) (im : List Int) : ∀ (xs : List (List Int)), (∀ l ∈ xs, rng n l = true) → ∀ (P : List Ent) (st : List (List Int)), P.length + st.length + xs.length ≤ 400000 →
      ∃ P' : List Ent, forL (evSs (tfn tblT) cst 2000 b_looked_through_1) (.one 7) [7, 8] (xs.map eI) [some (eT one), some (eT other), some (eT fd), some (.lst true (P.map eE)), some kd, some (.lst true (st.map eI)), some (eI im), none, none] =
        .nx [some (eT one), some (eT other), some (eT fd), some (.lst true (P'.map eE)), some kd, some (.lst true ((st ++ xs.filter (std one other)).map eI)), some (eI im), none, none] ∧ P'.length + (xs.filter (std one other)).length = P.length + xs.length ∧ Pap n one other P P' xs := by
  have l1 : lim = 1000000 := rfl
  intro xs
  induction xs with
  | nil => intro _ P st _; exact ⟨P, by simp [forL], by simp, ⟨fun e h => h, fun e h => .inl h, fun l h => by cases h⟩⟩
  | cons l xs ih =>
    intro hr P st hb
    rw [List.length_cons] at hb
    obtain ⟨r, q1, q2⟩ := breach_of_ok h1 h2 hn (hr l (by simp))
    rw [List.map_cons, forL_cons]
    rcases q2 with ⟨hs, rfl⟩ | ⟨hs, a, b, rfl, hk⟩
    · have e : stepL (evSs (tfn tblT) cst 2000 b_looked_through_1) (.one 7) [7, 8] [some (eT one), some (eT other), some (eT fd), some (.lst true (P.map eE)), some kd, some (.lst true (st.map eI)), some (eI im), none, none] (eI l) =
          .nx [some (eT one), some (eT other), some (eT fd), some (.lst true (P.map eE)), some kd, some (.lst true ((st ++ [l]).map eI)), some (eI im), none, none] := by
        unfold b_looked_through_1
        simp [stepL, q1, TI.isNon, r_app]
        rw [gd_d (by omega)]
        simp [wipeE]
      obtain ⟨P', e1, e2, e3⟩ := ih (fun x hx => hr x (by simp [hx])) P (st ++ [l]) (by simp; omega)
      refine ⟨P', by rw [e, nx_thn, e1]; simp [hs], by simp [hs]; omega, e3.sub, e3.new, fun x hx hx2 => ?_⟩
      rcases List.mem_cons.mp hx with rfl | hx
      · rw [hs] at hx2; cases hx2
      · exact e3.all x hx hx2
    · have i0 : ixD (.tup [.int a, .int b]) (.int 0) = .ok (.int a) := rfl
      have i1 : ixD (.tup [.int a, .int b]) (.int 1) = .ok (.int b) := rfl
      have e : stepL (evSs (tfn tblT) cst 2000 b_looked_through_1) (.one 7) [7, 8] [some (eT one), some (eT other), some (eT fd), some (.lst true (P.map eE)), some kd, some (.lst true (st.map eI)), some (eI im), none, none] (eI l) =
          .nx [some (eT one), some (eT other), some (eT fd), some (.lst true ((P ++ [(l, a, b)]).map eE)), some kd, some (.lst true (st.map eI)), some (eI im), none, none] := by
        unfold b_looked_through_1
        simp [stepL, q1, TI.isNon, r_app, biD, i0, i1, gd_d, l1]
        rw [gd_d (by omega)]
        simp [wipeE]
      obtain ⟨P', e1, e2, e3⟩ := ih (fun x hx => hr x (by simp [hx])) (P ++ [(l, a, b)]) st (by simp; omega)
      refine ⟨P', by rw [e, nx_thn, e1]; simp [hs], by simp [hs]; simp at e2; omega, fun x hx => e3.sub x (by simp [hx]), fun x hx => ?_, fun x hx hx2 => ?_⟩
      · rcases e3.new x hx with hx | hx
        · rcases List.mem_append.mp hx with hx | hx
          · exact .inl hx
          · rw [List.mem_singleton.mp hx]
            exact .inr hk
        · exact .inr hx
      · rcases List.mem_cons.mp hx with rfl | hx
        · exact ⟨(x, a, b), e3.sub _ (by simp), rfl⟩
        · exact e3.all x hx hx2
/-- how many lists are longer by one -/
theorem lng_count {n : Nat} {im : List Int} (hr : rng n im = true) : (lng n im).length + im.length = n := by
  obtain ⟨hn, hin⟩ := rng_iff.mp hr
  have key : ∀ (m : Nat) (im : List Int), im.Nodup → (∀ c ∈ im, 0 ≤ c) → ((List.range m).filterMap fun c => if ((c : Nat) : Int) ∈ im then none else some (im ++ [((c : Nat) : Int)])).length + (im.filter fun c : Int => decide (c < (m : Int))).length = m := by
    intro m im hd h0
    induction m with
    | zero =>
      have : (im.filter fun c : Int => decide (c < ((0 : Nat) : Int))) = [] := by
        rw [List.filter_eq_nil_iff]
        intro c hc
        have := h0 c hc
        simp
        omega
      rw [this]; rfl
    | succ m ih =>
      rw [List.range_succ, List.filterMap_append, List.length_append]
      by_cases hm : (m : Int) ∈ im
      · have e : (im.filter fun c : Int => decide (c < ((m + 1 : Nat) : Int))).length = (im.filter fun c : Int => decide (c < (m : Int))).length + 1 := by
          have h3 : (im.erase (m : Int)).filter (fun c => decide (c < ((m + 1 : Nat) : Int))) = (im.erase (m : Int)).filter (fun c => decide (c < (m : Int))) := by
            apply List.filter_congr
            intro c hc
            have := (hd.mem_erase_iff.mp hc).1
            simp
            omega
          have p := List.perm_cons_erase hm
          have p1 := (p.filter fun c => decide (c < ((m + 1 : Nat) : Int))).length_eq
          have p2 := (p.filter fun c => decide (c < (m : Int))).length_eq
          rw [List.filter_cons] at p1 p2
          simp only [show decide ((m : Int) < ((m + 1 : Nat) : Int)) = true by simp; omega, if_true, List.length_cons] at p1
          simp only [show decide ((m : Int) < (m : Int)) = false by simp] at p2
          rw [p1, p2, h3]
          simp
        simp [hm]
        simp at ih e
        omega
      · have e : (im.filter fun c : Int => decide (c < ((m + 1 : Nat) : Int))) = im.filter fun c : Int => decide (c < (m : Int)) := by
          apply List.filter_congr
          intro c hc
          have : c ≠ m := fun z => hm (by rw [← z]; exact hc)
          simp
          omega
        rw [e]
        simp [hm]
        skip
        omega
  have := key n im hn fun c hc => (hin c hc).1
  have e : im.filter (fun c => decide (c < (n : Int))) = im := by
    rw [List.filter_eq_self]
    intro c hc
    exact decide_eq_true (hin c hc).2
  rw [e] at this
  exact this

theorem in2 {n : Nat} {one other : List (List Int)} (h1 : Tab n one) (h2 : Tab n other) (hn : n ≤ 6) (kd : D) (fd : List (List Int)) : ∀ (ys : List (List Int)), (∀ l ∈ ys, rng n l = true) → ∀ (P : List Ent) (st : List (List Int)), P.length + st.length + ys.length * n ≤ 400000 →
      ∃ P' : List Ent, forL (evSs (tfn tblT) cst 2000 b_looked_through_2) (.one 6) [6, 7, 8] (ys.map eI) [some (eT one), some (eT other), some (eT fd), some (.lst true (P.map eE)), some kd, some (.lst true (st.map eI)), none, none, none] =
        .nx [some (eT one), some (eT other), some (eT fd), some (.lst true (P'.map eE)), some kd, some (.lst true ((st ++ ys.flatMap fun im => (lng n im).filter (std one other)).map eI)), none, none, none] ∧
        P'.length + (ys.flatMap fun im => (lng n im).filter (std one other)).length = P.length + (ys.flatMap (lng n)).length ∧ Pap n one other P P' (ys.flatMap (lng n)) := by
  intro ys
  induction ys with
  | nil => intro _ P st _; exact ⟨P, by simp [forL], by simp, ⟨fun e h => h, fun e h => .inl h, fun l h => by cases h⟩⟩
  | cons im ys ih =>
    intro hr P st hb
    rw [List.length_cons, Nat.add_mul, Nat.one_mul] at hb
    have hri := hr im (by simp)
    have hll := lng_len n im
    have hpl := pig n im (rng_iff.mp hri).1 (rng_iff.mp hri).2
    have hfl := List.length_filter_le (std one other) (lng n im)
    have hlb := longer_by_ok (n := n) im (by omega) (by omega)
    obtain ⟨P1, q1, q2, q3⟩ := in1 h1 h2 hn kd fd im (lng n im) (fun l hl => (lng_rng hri hl).1) P st (by omega)
    have e : stepL (evSs (tfn tblT) cst 2000 b_looked_through_2) (.one 6) [6, 7, 8] [some (eT one), some (eT other), some (eT fd), some (.lst true (P.map eE)), some kd, some (.lst true (st.map eI)), none, none, none] (eI im) =
        .nx [some (eT one), some (eT other), some (eT fd), some (.lst true (P1.map eE)), some kd, some (.lst true ((st ++ (lng n im).filter (std one other)).map eI)), none, none, none] := by
      unfold b_looked_through_2
      simp [stepL, hlb, h1.1, q1, wipeE]
    obtain ⟨P2, r1, r2, r3⟩ := ih (fun l hl => hr l (by simp [hl])) P1 (st ++ (lng n im).filter (std one other)) (by rw [List.length_append]; omega)
    refine ⟨P2, by rw [List.map_cons, forL_cons, e, nx_thn, r1]; simp, ?_, fun x hx => r3.sub x (q3.sub x hx), fun x hx => ?_, fun l hl hs => ?_⟩
    · rw [List.flatMap_cons, List.flatMap_cons, List.length_append, List.length_append]
      omega
    · rcases r3.new x hx with hx | hx
      · exact q3.new x hx
      · exact .inr hx
    · rw [List.flatMap_cons] at hl
      rcases List.mem_append.mp hl with hl | hl
      · obtain ⟨e, he, h⟩ := q3.all l hl hs
        exact ⟨e, r3.sub e he, h⟩
      · exact r3.all l hl hs
def fact : Nat → Nat
  | 0 => 1
  | n + 1 => (n + 1) * fact n
theorem fact_pos : ∀ n, 1 ≤ fact n
  | 0 => Nat.le_refl _
  | n + 1 => by
    have := fact_pos n
    unfold fact
    exact Nat.le_trans this (Nat.le_mul_of_pos_left _ (Nat.succ_pos n))
theorem flat_count {n k : Nat} (hk : k < n) : ∀ ys : List (List Int), (∀ l ∈ ys, l.length = k ∧ rng n l = true) → (ys.flatMap (lng n)).length = ys.length * (n - k)
  | [], _ => by simp
  | im :: ys, h => by
    have ih := flat_count hk ys fun l hl => h l (by simp [hl])
    obtain ⟨h1, h2⟩ := h im (by simp)
    have := lng_count h2
    rw [List.flatMap_cons, List.length_append, ih, List.length_cons, Nat.add_mul, Nat.one_mul]
    omega
end K44
set_option Elab.async false
set_option linter.all false
set_option maxRecDepth 100000
namespace K44
open PySem L2 TI
theorem flat_le {n : Nat} (p : List Int → Bool) : ∀ ys : List (List Int), (ys.flatMap fun im => (lng n im).filter p).length ≤ (ys.flatMap (lng n)).length
  | [] => by simp
  | im :: ys => by
    have ih := flat_le (n := n) p ys
    have := List.length_filter_le p (lng n im)
    rw [List.flatMap_cons, List.flatMap_cons, List.length_append, List.length_append]
    omega
theorem looked_ok {n : Nat} {one other : List (List Int)} (h1 : Tab n one) (h2 : Tab n other) (hn : n ≤ 6) :
    ∃ P : List Ent, f_looked_through [eT one, eT other] = .ok (.pr [eT (walkE n one other n), .lst true (P.map eE)]) ∧ P.length ≤ 720 ∧ (∀ e ∈ P, brk n one other e.1 e.2.1 e.2.2 = true) ∧
      ∀ k, k < n → ∀ im ∈ walkE n one other k, ∀ l ∈ lng n im, std one other l = false → ∃ e ∈ P, e.1 = l := by
  unfold f_looked_through c_looked_through
  rw [evDef_fin]
  have l1 : lim = 1000000 := rfl
  have hfn : fact n ≤ 720 := by
    have : n = 0 ∨ n = 1 ∨ n = 2 ∨ n = 3 ∨ n = 4 ∨ n = 5 ∨ n = 6 := by omega
    rcases this with rfl | rfl | rfl | rfl | rfl | rfl | rfl <;> decide
  obtain ⟨e, e1, P, rfl, p1, p2, p3⟩ := forL_inv (b := evSs (tfn tblT) cst 2000 b_looked_through_3) (ct := .one 4) (kl := [4, 5, 6, 7, 8]) (fun i env => ∃ P : List Ent, env = [some (eT one), some (eT other), some (eT (walkE n one other i)), some (.lst true (P.map eE)), none, none, none, none, none] ∧
      P.length + (walkE n one other i).length * fact (n - i) ≤ fact n ∧ (∀ e ∈ P, brk n one other e.1 e.2.1 e.2.2 = true) ∧ ∀ k, k < i → ∀ im ∈ walkE n one other k, ∀ l ∈ lng n im, std one other l = false → ∃ e ∈ P, e.1 = l)
    (xs := rngD 0 n) (e0 := [some (eT one), some (eT other), some (eT [[]]), some (.lst true []), none, none, none, none, none]) (i0 := 0) (fun i env x hp hx _ => by
      obtain ⟨P, rfl, p1, p2, p3⟩ := hp
      obtain ⟨hx1, rfl⟩ := rngD_get hx
      rw [Nat.sub_zero] at hx1 ⊢
      obtain ⟨w1, w2⟩ := walkE_ok n one other i
      have wp := pow_le hn (show i ≤ 6 by omega)
      have wm := Nat.mul_le_mul_left (walkE n one other i).length hn
      obtain ⟨P', q1, q2, q3⟩ := in2 h1 h2 hn (.int (i : Int)) (walkE n one other i) (walkE n one other i) (fun l hl => (w2 l hl).2) P [] (by simp; omega)
      have fc := flat_count hx1 (walkE n one other i) w2
      have fl := flat_le (n := n) (std one other) (walkE n one other i)
      rw [fc] at q2 fl
      refine ⟨[some (eT one), some (eT other), some (eT (walkE n one other (i + 1))), some (.lst true (P'.map eE)), none, none, none, none, none], ?_, P', rfl, ?_, ?_, ?_⟩
      · unfold b_looked_through_3
        simp only [List.map_nil, List.nil_append] at q1
        simp [stepL, gd_d, q1, wipeE]
        rfl
      · have ef : fact (n - i) = (n - i) * fact (n - (i + 1)) := by
          rw [show n - i = (n - (i + 1)) + 1 by omega]; rfl
        have fp := fact_pos (n - (i + 1))
        show P'.length + ((walkE n one other i).flatMap fun im => (lng n im).filter (std one other)).length * fact (n - (i + 1)) ≤ fact n
        generalize ((walkE n one other i).flatMap fun im => (lng n im).filter (std one other)).length = W' at *
        generalize (walkE n one other i).length = W at *
        generalize fact (n - (i + 1)) = f at *
        rw [ef] at p1
        by_cases hle : P.length ≤ P'.length
        · obtain ⟨a, ha⟩ := Nat.exists_eq_add_of_le hle
          have e5 : a + W' = W * (n - i) := by omega
          have e6 : (a + W') * f = W * ((n - i) * f) := by rw [e5, Nat.mul_assoc]
          rw [Nat.add_mul] at e6
          have e7 : a ≤ a * f := Nat.le_mul_of_pos_right _ fp
          omega
        · exfalso
          omega
      · intro e he
        rcases q3.new e he with h | h
        · exact p2 e h
        · exact h
      · intro k hk im him l hl hs
        by_cases hki : k < i
        · obtain ⟨e, he, h⟩ := p3 k hki im him l hl hs
          exact ⟨e, q3.sub e he, h⟩
        · have : k = i := by omega
          subst this
          exact q3.all l (List.mem_flatMap.mpr ⟨im, him, hl⟩) hs) ⟨[], rfl, by simp [walkE], by simp, fun k hk => absurd hk (Nat.not_lt_zero _)⟩
  rw [rngD_len, Nat.zero_add] at p1 p3
  rw [rngD_len, Nat.zero_add] at e1
  have e1' : forL (evSs (tfn tblT) cst 2000 b_looked_through_3) (.one 4) [4, 5, 6, 7, 8] (rngD 0 n) [some (eT one), some (eT other), some (.lst false [.lst false []]), some (.lst true []), none, none, none, none, none] = .nx [some (eT one), some (eT other), some (eT (walkE n one other n)), some (.lst true (P.map eE)), none, none, none, none, none] := e1
  refine ⟨P, ?_, by omega, p2, p3⟩
  simp [h1.1, gd_d, l1, i_rng1]
  rw [gd_d (by omega)]
  simp
  rw [e1']
  simp [TI.evS]
end K44
set_option Elab.async false
set_option linter.all false
set_option maxRecDepth 100000
namespace K44
open PySem L2 TI
theorem keys_mem {n : Nat} {one other : List (List Int)} : ∀ (P : List Ent) (ks : List (List Int)), (∀ k ∈ ks, k ∈ P.foldl (keyStep n one other) ks) ∧ ∀ e ∈ P, brk n one other e.1 e.2.1 e.2.2 = true → e.1 ∈ P.foldl (keyStep n one other) ks
  | [], ks => ⟨fun k h => h, fun e h => by cases h⟩
  | x :: P, ks => by
    obtain ⟨h1, h2⟩ := keys_mem P (keyStep n one other ks x)
    rw [List.foldl_cons]
    refine ⟨fun k hk => h1 k ?_, fun e he hb => ?_⟩
    · unfold keyStep put
      split
      · split
        · exact hk
        · exact List.mem_append_left _ hk
      · exact hk
    · rcases List.mem_cons.mp he with rfl | he
      · refine h1 _ ?_
        unfold keyStep put
        rw [if_pos hb]
        split
        · rename_i h; exact hasK_iff.mp h
        · simp
      · exact h2 e he hb
theorem walk_eq {n : Nat} {one other S : List (List Int)} (hS : ∀ l ∈ S, std one other l = false) (hc : ∀ k, k < n → ∀ im ∈ walkE n one other k, ∀ l ∈ lng n im, std one other l = false → l ∈ S) : ∀ k, k ≤ n → walkS n S k = walkE n one other k
  | 0, _ => rfl
  | k + 1, hk => by
    have ih := walk_eq hS hc k (by omega)
    unfold walkS walkE stepS
    rw [ih]
    have : ∀ ys : List (List Int), (∀ im ∈ ys, im ∈ walkE n one other k) → (ys.flatMap fun im => (lng n im).filter fun l => !hasK S l) = ys.flatMap fun im => (lng n im).filter (std one other) := by
      intro ys
      induction ys with
      | nil => intro _; rfl
      | cons im ys ih2 =>
        intro h
        rw [List.flatMap_cons, List.flatMap_cons, ih2 fun x hx => h x (by simp [hx])]
        congr 1
        apply List.filter_congr
        intro l hl
        cases hs : std one other l with
        | true =>
          cases hk2 : hasK S l with
          | false => rfl
          | true => rw [hS l (hasK_iff.mp hk2)] at hs; cases hs
        | false =>
          have := hasK_iff.mpr (hc k (by omega) im (h im (by simp)) l hl hs)
          rw [this]; rfl
    exact this _ fun _ h => h
/-- what a found paper is good for -/
structure PGood (t u : List (List Int)) (P : List Ent) : Prop where
  len : P.length ≤ 720
  ent : ∀ e ∈ P, e.1.length ≤ 6
  shut : f_shut [eT t, eT u, eP P] = .ok (.bl true)
  shuts : f_shuts [eT t, eT u, eP P] = .ok (.bl true)
theorem unlike_ok {n k : Nat} {t u : List (List Int)} (ht : Tab n t) (hu : Tab k u) (hn : n ≤ 6) (hk : k ≤ 6) :
    (∃ P, f_unlike [eT t, eT u] = .ok (.lst true (P.map eE)) ∧ PGood t u P ∧ ∃ o, f_every [eT t, eT u] = .ok (.lst o [])) ∨ (f_unlike [eT t, eT u] = .ok .non ∧ ∃ W : List (List Int), f_every [eT t, eT u] = .ok (eT W) ∧ 0 < W.length) := by
  have ha := asked_ok (one := t) (other := u) (by rw [ht.1]; exact hn) (by rw [hu.1]; exact hk)
  have bind2 : ∀ (i j : Nat) (x y : D) (env : TI.Env), bindT (.many [i, j]) (.tup [x, y]) env = .ok ((env.set i (some x)).set j (some y)) := fun _ _ _ _ _ => rfl
  by_cases h : n = k
  · subst h
    obtain ⟨P, l1, l2, l3, l4⟩ := looked_ok ht hu hn
    have hkm := keys_mem (n := n) (one := t) (other := u) P []
    have hwe : walkS n (keys n t u P) n = walkE n t u n := walk_eq (keys_brk (n := n) P) (fun k hk im him l hl hs => by
      obtain ⟨e, he, rfl⟩ := l4 k hk im him l hl hs
      exact hkm.2 e he (l3 e he)) n (Nat.le_refl _)
    have hel : ∀ e ∈ P, e.1.length ≤ 6 := fun e he => by
      have := l3 e he
      unfold brk at this
      simp only [Bool.and_eq_true] at this
      have hr := rng_iff.mp this.1.1
      have := pig n e.1 hr.1 hr.2
      omega
    by_cases hw : 0 < (walkE n t u n).length
    · right
      refine ⟨?_, _, every_ok ht hu hn, hw⟩
      unfold f_unlike c_unlike
      rw [evDef_fin]
      have hw2 : (0 : Int) < ((walkE n t u n).length : Int) := by omega
      simp [ha, ht.1, hu.1, l1, asPr2, hw2]
      intro z
      rw [z] at hw
      simp at hw
    · left
      have hw0 : walkE n t u n = [] := List.length_eq_zero_iff.mp (by omega)
      refine ⟨P, ?_, ⟨l2, hel, ?_, ?_⟩, false, by rw [every_ok ht hu hn, hw0]; rfl⟩
      · unfold f_unlike c_unlike
        rw [evDef_fin]
        simp [ha, ht.1, hu.1, l1, asPr2, hw0]
      · rw [shut_ok ht hu hn P (by omega), hwe, hw0]; rfl
      · rw [shuts_ok ht hu hn P (by omega) (fun e he => by have := hel e he; omega), hwe, hw0]; rfl
  · left
    have h' : t.length ≠ u.length := by rw [ht.1, hu.1]; exact h
    refine ⟨[], ?_, ⟨by simp, by simp, shut_ne h', shuts_ne (by rw [ht.1]; exact hn) (by rw [hu.1]; exact hk) h'⟩, true, every_ne h'⟩
    unfold f_unlike c_unlike
    rw [evDef_fin]
    have h2 : ¬ ((t.length : Int) = u.length) := by omega
    simp [ha, h2, gd_d]
end K44
set_option Elab.async false
set_option linter.all false
set_option maxRecDepth 100000
namespace K44
open PySem L2 TI
theorem is_whole_ok (i : Int) : f_is_whole [.int i] = .ok (.bl true) := by
  unfold f_is_whole c_is_whole
  rw [evDef_fin]
  simp [isiD]
theorem is_paper_ok {P : List Ent} (hP : P.length ≤ 1000) (hE : ∀ e ∈ P, e.1.length ≤ 1000) : f_is_paper [eP P] = .ok (.bl true) := by
  unfold f_is_paper c_is_paper
  rw [evDef_fin]
  have l1 : lim = 1000000 := rfl
  have inner : ∀ (d : D) (xs : List Int), forL (evSs (tfn [("_law_is_whole", 1, f_is_whole)]) cst 2000 b_is_paper_1) (.one 2) [2] (xs.map .int) [some (eP P), some d, none] = .nx [some (eP P), some d, none] := by
    intro d xs
    induction xs with
    | nil => rfl
    | cons x xs ih =>
      rw [List.map_cons, forL_cons]
      have e : stepL (evSs (tfn [("_law_is_whole", 1, f_is_whole)]) cst 2000 b_is_paper_1) (.one 2) [2] [some (eP P), some d, none] (.int x) = .nx [some (eP P), some d, none] := by
        unfold b_is_paper_1
        simp [stepL, is_whole_ok, wipeE]
      rw [e, nx_thn, ih]
  have outer : ∀ Q : List Ent, (∀ e ∈ Q, e.1.length ≤ 1000) → forL (evSs (tfn [("_law_is_whole", 1, f_is_whole)]) cst 2000 b_is_paper_2) (.one 1) [1, 2] (Q.map eE) [some (eP P), none, none] = .nx [some (eP P), none, none] := by
    intro Q
    induction Q with
    | nil => intro _; rfl
    | cons x Q ih =>
      intro hQ
      rw [List.map_cons, forL_cons]
      have hx := hQ x (by simp)
      have i0 : ixD (eE x) (.int 0) = .ok (.tup (x.1.map .int)) := rfl
      have i1 : ixD (eE x) (.int 1) = .ok (.int x.2.1) := rfl
      have i2 : ixD (eE x) (.int 2) = .ok (.int x.2.2) := rfl
      have ad : binD .Add false (.lst false (x.1.map .int)) (.lst false [.int x.2.1, .int x.2.2]) = .ok (.lst false ((x.1 ++ [x.2.1, x.2.2]).map .int)) := by
        rw [b_addL (by simp; omega), List.map_append]; rfl
      have inn := inner (eE x) (x.1 ++ [x.2.1, x.2.2])
      generalize hy : x.1 ++ [x.2.1, x.2.2] = y at *
      have e : stepL (evSs (tfn [("_law_is_whole", 1, f_is_whole)]) cst 2000 b_is_paper_2) (.one 1) [1, 2] [some (eP P), none, none] (eE x) = .nx [some (eP P), none, none] := by
        unfold b_is_paper_2
        simp [stepL, isiD, i0, i1, i2, biD, gd_d, l1, ad, inn, wipeE]
      rw [e, nx_thn, ih fun z hz => hQ z (by simp [hz])]
  have o := outer P hE
  have hl : ¬ (1000 : Int) < P.length := by omega
  simp [isiD, hl, o]
/-- one left out -/
theorem less_ok {n k : Nat} {t u : List (List Int)} (ht : Tab n t) (hu : Tab k u) (hn : n ≤ 6) (hk : k ≤ 6) {P : List Ent} (hP : P.length ≤ 720) (hE : ∀ e ∈ P, e.1.length ≤ 6) (p : Int) : f_less_right [eT t, eT u, eP P, .int p] = .ok (.bl true) := by
  unfold f_less_right c_less_right
  rw [evDef_fin]
  have l1 : lim = 1000000 := rfl
  by_cases h0 : P = []
  · simp [h0]
  · have hlen : 0 < P.length := by
      cases P with
      | nil => exact absurd rfl h0
      | cons _ _ => simp
    have m1 := Int.emod_nonneg p (show (P.length : Int) ≠ 0 by omega)
    have m2 := Int.emod_lt_of_pos p (show (0 : Int) < P.length by omega)
    obtain ⟨q, hq⟩ : ∃ q : Nat, (q : Int) = p % P.length := ⟨(p % P.length).toNat, by omega⟩
    have md : binD .Mod false (.int p) (.int (P.length : Int)) = .ok (.int (q : Int)) := by
      rw [b_mod (by omega), hq]
    obtain ⟨A, hA⟩ : ∃ A, A = P.take q := ⟨_, rfl⟩
    obtain ⟨C, hC⟩ : ∃ C, C = P.drop (q + 1) := ⟨_, rfl⟩
    have hAl : A.length ≤ P.length := by rw [hA, List.length_take]; omega
    have hCl : C.length ≤ P.length := by rw [hC, List.length_drop]; omega
    have c1 : cutL (P.map eE) none (some (q : Int)) = A.map eE := by
      unfold cutL
      rw [HT.sIx_nat, HT.sIx_none, List.drop_zero, hA, List.map_take, List.length_map, Nat.min_eq_left (by omega)]
      rfl
    have c2 : cutL (P.map eE) (some ((q : Int) + 1)) none = C.map eE := by
      rw [show (q : Int) + 1 = ((q + 1 : Nat) : Int) by omega, cut_from (by rw [List.length_map]; omega), hC, List.map_drop]
    obtain ⟨L, hL⟩ : ∃ L, L = A ++ C := ⟨_, rfl⟩
    have hLl : L.length ≤ 1440 := by rw [hL, List.length_append]; omega
    have hLe : ∀ e ∈ L, e.1.length ≤ 4000 := by
      intro e he
      rw [hL] at he
      rcases List.mem_append.mp he with he | he
      · have := hE e (List.mem_of_mem_take (by rw [← hA]; exact he)); omega
      · have := hE e (List.mem_of_mem_drop (by rw [← hC]; exact he)); omega
    have c3 : binD .Add false (.lst false (A.map eE)) (.lst false (C.map eE)) = .ok (eP L) := by
      rw [b_addL (by simp; omega), hL, ← List.map_append]
    have hc1 := copied_ok ht hn
    have hc2 := copied_ok hu hk
    obtain ⟨due, d1, d2⟩ : ∃ due : Bool, f_shut [eT t, eT u, eP L] = .ok (.bl due) ∧ f_shuts [eT t, eT u, eP L] = .ok (.bl due) := by
      by_cases h : n = k
      · subst h; exact ⟨_, shut_ok ht hu hn L (by omega), shuts_ok ht hu hn L (by omega) hLe⟩
      · exact ⟨true, shut_ne (by rw [ht.1, hu.1]; exact h), shuts_ne (by rw [ht.1]; exact hn) (by rw [hu.1]; exact hk) (by rw [ht.1, hu.1]; exact h)⟩
    simp [h0, md, kidsF, isStr, slD, c1, c2, c3, hc1, hc2, biD, d1, d2]
end K44
set_option Elab.async false
set_option linter.all false
set_option maxRecDepth 100000
namespace K44
open PySem L2 TI
@[simp] theorem fz_eP (o : Bool) (P : List Ent) : fz (.lst o (P.map eE)) = eP P := fz_lst (by simp)
theorem lay_all {α : Type} (f : α → D) (k : Nat) : ∀ xs : List α, (∀ x ∈ xs, (toPy (f x)).canLay0 = true ∧ (toPy (f x)).depth ≤ k) → PyData.canLayAll0 (toPys (xs.map f)) = true ∧ PyData.depthAll (toPys (xs.map f)) ≤ k
  | [], _ => ⟨by rw [List.map_nil, toPys, PyData.canLayAll0], by rw [List.map_nil, toPys, PyData.depthAll]; omega⟩
  | x :: xs, h => by
    obtain ⟨h1, h2⟩ := lay_all f k xs fun y hy => h y (List.mem_cons_of_mem _ hy)
    obtain ⟨h3, h4⟩ := h x (by simp)
    rw [List.map_cons, toPys, PyData.canLayAll0, PyData.depthAll, h1, h3]
    exact ⟨rfl, by omega⟩
theorem lay_int (i : Int) : (toPy (.int i)).canLay0 = true ∧ (toPy (.int i)).depth ≤ 0 := by
  rw [toPy, PyData.canLay0, PyData.depth]
  exact ⟨rfl, Nat.le_refl _⟩
theorem lay_eI (r : List Int) : (toPy (eI r)).canLay0 = true ∧ (toPy (eI r)).depth ≤ 1 := by
  obtain ⟨h1, h2⟩ := lay_all D.int 0 r fun x _ => lay_int x
  rw [toPy, PyData.canLay0, PyData.depth]
  exact ⟨h1, by omega⟩
theorem lay_eT (t : List (List Int)) : (toPy (eT t)).canLay0 = true ∧ (toPy (eT t)).depth ≤ 2 := by
  obtain ⟨h1, h2⟩ := lay_all eI 1 t fun x _ => lay_eI x
  rw [toPy, PyData.canLay0, PyData.depth]
  exact ⟨h1, by omega⟩
theorem lay_eE (e : Ent) : (toPy (eE e)).canLay0 = true ∧ (toPy (eE e)).depth ≤ 2 := by
  obtain ⟨h1, h2⟩ := lay_all D.int 0 e.1 fun x _ => lay_int x
  simp only [eE, toPy, toPys, PyData.canLay0, PyData.canLayAll0, PyData.depth, PyData.depthAll, h1]
  exact ⟨rfl, by omega⟩
theorem lay_eP (P : List Ent) : (toPy (eP P)).canLay0 = true ∧ (toPy (eP P)).depth ≤ 3 := by
  obtain ⟨h1, h2⟩ := lay_all eE 2 P fun x _ => lay_eE x
  rw [toPy, PyData.canLay0, PyData.depth]
  exact ⟨h1, by omega⟩
theorem eq_self' {xs : List D} (hf : isFs xs = true) (h : (toPy (.lst false xs)).canLay0 = true ∧ (toPy (.lst false xs)).depth ≤ 64) : cmpD .NotEq (.lst false xs) (.lst false xs) = .ok (.bl false) := by
  show (do let b ← eqD (.lst false xs) (.lst false xs); R.ok (D.bl (!b)) : R D) = _
  have e : eqD (.lst false xs) (.lst false xs) = .ok true := by
    show (do gd (isF (.lst false xs) && isF (.lst false xs) && SeqAt.shaped (toPy (.lst false xs)) && SeqAt.shaped (toPy (.lst false xs))); R.ok (PyData.eqv (toPy (.lst false xs)) (toPy (.lst false xs))) : R Bool) = _
    have s : SeqAt.shaped (toPy (.lst false xs)) = true := by
      unfold SeqAt.shaped
      rw [h.1, decide_eq_true h.2]; rfl
    rw [s, isF_lst, hf, SeqAt.eqv_refl _ h.1]
    rfl
  rw [e]; rfl
theorem eq_eT (t : List (List Int)) : cmpD .NotEq (eT t) (eT t) = .ok (.bl false) := eq_self' (by simp) ⟨(lay_eT t).1, Nat.le_trans (lay_eT t).2 (by decide)⟩
theorem eq_eP (P : List Ent) : cmpD .NotEq (eP P) (eP P) = .ok (.bl false) := eq_self' (by simp) ⟨(lay_eP P).1, Nat.le_trans (lay_eP P).2 (by decide)⟩
theorem walkS_ne {n : Nat} : ∀ k, k ≤ n → ∃ im, im ∈ walkS n [] k
  | 0, _ => ⟨[], by simp [walkS]⟩
  | k + 1, h => by
    obtain ⟨im, him⟩ := walkS_ne (n := n) k (by omega)
    obtain ⟨_, w⟩ := walkS_ok n [] k
    obtain ⟨w1, w2⟩ := w im him
    have hc := lng_count w2
    cases hl : lng n im with
    | nil => rw [hl] at hc; simp at hc; omega
    | cons l r =>
      refine ⟨l, ?_⟩
      unfold walkS stepS
      rw [List.mem_flatMap]
      refine ⟨im, him, List.mem_filter.mpr ⟨by rw [hl]; simp, rfl⟩⟩
theorem right_ok {n k : Nat} {t u : List (List Int)} (ht : Tab n t) (hu : Tab k u) (hn : n ≤ 6) (hk : k ≤ 6) (p : Int) : f_right [eT t, eT u, .int p] = .ok (.bl true) := by
  unfold f_right c_right
  rw [evDef_fin]
  have l1 : lim = 1000000 := rfl
  have hc1 := copied_ok ht hn
  have hc2 := copied_ok hu hk
  have n1 := eq_eT t
  have n2 := eq_eT u
  have s0 : f_shuts [eT t, eT u, .lst false []] = .ok (.bl (decide (¬ ((t.length : Int) = u.length)))) := by
    by_cases h : n = k
    · subst h
      have := shuts_ok ht hu hn [] (by simp) (by simp)
      have e : f_shuts [eT t, eT u, .lst false []] = f_shuts [eT t, eT u, eP []] := rfl
      rw [e, this]
      obtain ⟨im, him⟩ := walkS_ne (n := n) n (Nat.le_refl _)
      have : ¬ (walkS n (keys n t u []) n).length = 0 := by
        intro z
        have z2 := List.length_eq_zero_iff.mp z
        have z3 : walkS n [] n = [] := z2
        rw [z3] at him
        cases him
      rw [decide_eq_false this, ht.1, hu.1]
      simp
    · have h' : t.length ≠ u.length := by rw [ht.1, hu.1]; exact h
      have e : f_shuts [eT t, eT u, .lst false []] = f_shuts [eT t, eT u, eP []] := rfl
      rw [e, shuts_ne (by rw [ht.1]; exact hn) (by rw [hu.1]; exact hk) h']
      have : ¬ ((t.length : Int) = u.length) := by omega
      simp [this]
  rcases unlike_ok ht hu hn hk with ⟨P, u1, g, o, e1⟩ | ⟨u1, W, e1, hW⟩
  · have ip := is_paper_ok (P := P) (by have := g.len; omega) (fun e he => by have := g.ent e he; omega)
    have lr := less_ok ht hu hn hk g.len g.ent p
    have g1 := g.shut
    have g2 := g.shuts
    have le0 : lenD (fz (.lst o [])) = .ok (.int 0) := by cases o <;> rfl
    have isb1 : cmpD .IsNot (.bl true) (.bl true) = .ok (.bl false) := rfl
    simp [hc1, hc2, s0, u1, n1, n2, e1, le0, ip, g1, g2, lr, kidsF, biD, flatD, isb1, TI.isNon, gd_d, l1]
  · have le0 : lenD (fz (eT W)) = .ok (.int W.length) := by simp
    have hw2 : (0 : Int) < (W.length : Int) := by omega
    simp [hc1, hc2, s0, u1, n1, n2, e1, hw2, TI.isNon, gd_d, l1]
    intro z
    rw [z] at hW
    simp at hW
theorem law_true : ∀ ns : List Int, ns.length ≤ 63 → f_law [.scr ns] = .ok (.bl true) := by
  intro ns _
  unfold f_law c_law
  rw [evDef_fin]
  have l1 : lim = 1000000 := rfl
  obtain ⟨so, hr, hl, hv⟩ := row_ok ns [8, 1000] 3 (by omega) (by simp) (by intro z hz; simp at hz; omega)
  obtain ⟨s, i0, hs⟩ := row_get hl hv (k := 0) (z := 8) rfl
  obtain ⟨p, i1, hp⟩ := row_get hl hv (k := 1) (z := 1000) rfl
  simp only [Int.natCast_zero, Int.natCast_one] at i0 i1
  have hr' : f_row [.scr ns, .int 3, .lst false [.int 8, .int 1000]] = .ok (.lst true (so.map .int)) := hr
  have bind2 : ∀ (i j : Nat) (x y : D) (env : TI.Env), bindT (.many [i, j]) (.tup [x, y]) env = .ok ((env.set i (some x)).set j (some y)) := fun _ _ _ _ _ => rfl
  by_cases h : s = 0
  · obtain ⟨dp, n, t, k, u, hp1, hp2, ht, hu, hn1, hn2, hk1, hk2⟩ := pair_ok ns 6 (by omega)
    have r1 := right_ok ht hu hn2 hk2 p
    have r2 := right_ok hu ht hk2 hn2 p
    have hp1' : f_pair [.scr ns, .int 6] = .ok dp := hp1
    simp [hr', i0, i1, h, hp1', hp2, bind2, r1, r2, gd_d, l1]
  · obtain ⟨dp, n, t, k, u, hp1, hp2, ht, hu, hn1, hn2, hk1, hk2⟩ := pair_ok ns 5 (by omega)
    have r1 := right_ok ht hu (by omega) (by omega) p
    have r2 := right_ok hu ht (by omega) (by omega) p
    have hp1' : f_pair [.scr ns, .int 5] = .ok dp := hp1
    simp [hr', i0, i1, h, hp1', hp2, bind2, r1, r2, gd_d, l1]
end K44
open PySem PySem.W PyProof.Rows
set_option maxHeartbeats 0 in
theorem PySem.Challenge.cw_plait_k44_papers_of_unlike_holds : PySem.Challenge.rw_plait_k44_papers_of_unlike.Holds := by
  w_on; o_law; k_head; (case hw => w_witness2)
  k_fill
  refine L2.walk_of (l := PySem.Challenge.rw_plait_k44_papers_of_unlike) (n := 63) (k := 5) (x := "_law_script") (CX := fun w => L2.CX PySem.Challenge.rw_plait_k44_papers_of_unlike.prog w) (sp := fun w => TI.spOf _ (fun _ => none) 1 K44.f_law) rfl (by decide) rfl ⟨rfl, by decide, by decide⟩ (fun w h Y => PySem.W.kIn_of Y) ?F (fun _ _ a ns hl _ hS => TI.law_sp hS (K44.law_true ns hl)) (fun _ _ _ _ _ h => TI.cx_never h)
  case F =>
    intro w mg fa h KX G hmg
    refine' K44.all_mk KX G hmg (.mk ?tiA0 ?tiL0 ?tiC0 ?tiK0) (.mk ?tiA1 ?tiL1 ?tiC1 ?tiK1) (.mk ?tiA2 ?tiL2 ?tiC2 ?tiK2) (.mk ?tiA3 ?tiL3 ?tiC3 ?tiK3) (.mk ?tiA4 ?tiL4 ?tiC4 ?tiK4) (.mk ?tiA5 ?tiL5 ?tiC5 ?tiK5) (.mk ?tiA6 ?tiL6 ?tiC6 ?tiK6) (.mk ?tiA7 ?tiL7 ?tiC7 ?tiK7) (.mk ?tiA8 ?tiL8 ?tiC8 ?tiK8) (.mk ?tiA9 ?tiL9 ?tiC9 ?tiK9) (.mk ?tiA10 ?tiL10 ?tiC10 ?tiK10) (.mk ?tiA11 ?tiL11 ?tiC11 ?tiK11) (.mk ?tiA12 ?tiL12 ?tiC12 ?tiK12) (.mk ?tiA13 ?tiL13 ?tiC13 ?tiK13) (.mk ?tiA14 ?tiL14 ?tiC14 ?tiK14) (.mk ?tiA15 ?tiL15 ?tiC15 ?tiK15) (.mk ?tiA16 ?tiL16 ?tiC16 ?tiK16) (.mk ?tiA17 ?tiL17 ?tiC17 ?tiK17) (.mk ?tiA18 ?tiL18 ?tiC18 ?tiK18) (.mk ?tiA19 ?tiL19 ?tiC19 ?tiK19) (.mk ?tiA20 ?tiL20 ?tiC20 ?tiK20) (.mk ?tiA21 ?tiL21 ?tiC21 ?tiK21) (.mk ?tiA22 ?tiL22 ?tiC22 ?tiK22) (.mk ?tiA23 ?tiL23 ?tiC23 ?tiK23) (.mk ?tiA24 ?tiL24 ?tiC24 ?tiK24) (.mk ?tiA25 ?tiL25 ?tiC25 ?tiK25) (.mk ?tiA26 ?tiL26 ?tiC26 ?tiK26) (.mk ?tiA27 ?tiL27 ?tiC27 ?tiK27) (.mk ?tiA28 ?tiL28 ?tiC28 ?tiK28) ?tiB (.mk ?tiG0 ?tiR0)
    (case tiA0 => k_is); (case tiL0 => k_is); (case tiC0 => k_is); (case tiK0 => k_is)
    (case tiA1 => k_is); (case tiL1 => k_is); (case tiC1 => k_is); (case tiK1 => k_is)
    (case tiA2 => k_is); (case tiL2 => k_is); (case tiC2 => k_is); (case tiK2 => k_is)
    (case tiA3 => k_is); (case tiL3 => k_is); (case tiC3 => k_is); (case tiK3 => k_is)
    (case tiA4 => k_is); (case tiL4 => k_is); (case tiC4 => k_is); (case tiK4 => k_is)
    (case tiA5 => k_is); (case tiL5 => k_is); (case tiC5 => k_is); (case tiK5 => k_is)
    (case tiA6 => k_is); (case tiL6 => k_is); (case tiC6 => k_is); (case tiK6 => k_is)
    (case tiA7 => k_is); (case tiL7 => k_is); (case tiC7 => k_is); (case tiK7 => k_is)
    (case tiA8 => k_is); (case tiL8 => k_is); (case tiC8 => k_is); (case tiK8 => k_is)
    (case tiA9 => k_is); (case tiL9 => k_is); (case tiC9 => k_is); (case tiK9 => k_is)
    (case tiA10 => k_is); (case tiL10 => k_is); (case tiC10 => k_is); (case tiK10 => k_is)
    (case tiA11 => k_is); (case tiL11 => k_is); (case tiC11 => k_is); (case tiK11 => k_is)
    (case tiA12 => k_is); (case tiL12 => k_is); (case tiC12 => k_is); (case tiK12 => k_is)
    (case tiA13 => k_is); (case tiL13 => k_is); (case tiC13 => k_is); (case tiK13 => k_is)
    (case tiA14 => k_is); (case tiL14 => k_is); (case tiC14 => k_is); (case tiK14 => k_is)
    (case tiA15 => k_is); (case tiL15 => k_is); (case tiC15 => k_is); (case tiK15 => k_is)
    (case tiA16 => k_is); (case tiL16 => k_is); (case tiC16 => k_is); (case tiK16 => k_is)
    (case tiA17 => k_is); (case tiL17 => k_is); (case tiC17 => k_is); (case tiK17 => k_is)
    (case tiA18 => k_is); (case tiL18 => k_is); (case tiC18 => k_is); (case tiK18 => k_is)
    (case tiA19 => k_is); (case tiL19 => k_is); (case tiC19 => k_is); (case tiK19 => k_is)
    (case tiA20 => k_is); (case tiL20 => k_is); (case tiC20 => k_is); (case tiK20 => k_is)
    (case tiA21 => k_is); (case tiL21 => k_is); (case tiC21 => k_is); (case tiK21 => k_is)
    (case tiA22 => k_is); (case tiL22 => k_is); (case tiC22 => k_is); (case tiK22 => k_is)
    (case tiA23 => k_is); (case tiL23 => k_is); (case tiC23 => k_is); (case tiK23 => k_is)
    (case tiA24 => k_is); (case tiL24 => k_is); (case tiC24 => k_is); (case tiK24 => k_is)
    (case tiA25 => k_is); (case tiL25 => k_is); (case tiC25 => k_is); (case tiK25 => k_is)
    (case tiA26 => k_is); (case tiL26 => k_is); (case tiC26 => k_is); (case tiK26 => k_is)
    (case tiA27 => k_is); (case tiL27 => k_is); (case tiC27 => k_is); (case tiK27 => k_is)
    (case tiA28 => k_is); (case tiL28 => k_is); (case tiC28 => k_is); (case tiK28 => k_is)
    (case tiG0 => k_is)
    (case tiR0 => exact ⟨_, rfl⟩)
    case tiB =>
      intro x hx
      simp only [List.mem_cons, List.not_mem_nil, or_false] at hx
      rcases hx with rfl | rfl | rfl | rfl | rfl | rfl | rfl | rfl | rfl | rfl | rfl | rfl | rfl | rfl <;> k_is
